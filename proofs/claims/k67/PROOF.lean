import PyProof.Rows.All
import Wide.All
import OpenK.AllK
import Wide.FinOn
import HandS.ForMost
import HandS.Deep
import HandS.Wide
import HandS.IsInst
import HandS.Flow
import HandS.DictEq
import HandS.DeepEq
import PyProof.NeData
import PyProof.Rows.SeqMore
import PySem.Challenge.RW_shimright_k67_is_an_order
set_option Elab.async false
set_option linter.all false
set_option maxRecDepth 100000
set_option maxHeartbeats 2000000
set_option synthInstance.maxSize 4000
/-! ZA: data in the abstract heap, shapes with what they own, the state of a body, the judgements. -/
namespace Z
open PySem L2

/-! ### data -/
mutual
/-- v stands for the data d in the part F of the heap (F: what will not change any more) -/
inductive Rp (K : PySem.W.Frag) (F : Hp) : V → PyData → Prop
  | non : Rp K F .non .none
  | bl (b : Bool) : Rp K F (.bl b) (.bool b)
  | int (i : Int) : Rp K F (.int i) (.int i)
  | str (x : Str) : Rp K F (.str x) (.str x)
  | lst {a : Addr} {xs : List V} {ds : List PyData} : SqL K F a xs → RpL K F xs ds → Rp K F (.ref a) (.list ds)
  | tup {a : Addr} {xs : List V} {ds : List PyData} : SqT K F a xs → RpL K F xs ds → Rp K F (.ref a) (.tuple ds)
  | odd {a : Addr} : F a = some (.dK []) → Rp K F (.ref a) (.dict [])
inductive RpL (K : PySem.W.Frag) (F : Hp) : List V → List PyData → Prop
  | nil : RpL K F [] []
  | cons {v : V} {vs : List V} {d : PyData} {ds : List PyData} : Rp K F v d → RpL K F vs ds → RpL K F (v :: vs) (d :: ds)
end
section
variable {K : PySem.W.Frag} {F F' H H' : Hp}
theorem rd_mono (e : Same F F') {a : Addr} {u : HO} (h : Rd F a u) : Rd F' a u := by
  rcases h with h | ⟨o, h⟩
  · exact .inl (e a _ h)
  · exact .inr ⟨o, e a _ h⟩
theorem sqT_mono (e : Same F F') {a : Addr} {xs : List V} (h : SqT K F a xs) : SqT K F' a xs := by
  rcases h with h | h
  · exact .inl (rd_mono e h)
  · exact .inr h
mutual
theorem Rp.mono (e : Same F F') : ∀ {v : V} {d : PyData}, Rp K F v d → Rp K F' v d
  | _, _, .non => .non
  | _, _, .bl b => .bl b
  | _, _, .int i => .int i
  | _, _, .str x => .str x
  | _, _, .lst h q => .lst (e.seq h) (RpL.mono e q)
  | _, _, .tup h q => .tup (sqT_mono e h) (RpL.mono e q)
  | _, _, .odd h => .odd (e _ _ h)
theorem RpL.mono (e : Same F F') : ∀ {vs : List V} {ds : List PyData}, RpL K F vs ds → RpL K F' vs ds
  | _, _, .nil => .nil
  | _, _, .cons h q => .cons (Rp.mono e h) (RpL.mono e q)
end
theorem RpL.length : ∀ {vs : List V} {ds : List PyData}, RpL K F vs ds → vs.length = ds.length
  | _, _, .nil => rfl
  | _, _, .cons _ q => by rw [List.length_cons, List.length_cons, RpL.length q]
theorem RpL.get : ∀ {vs : List V} {ds : List PyData} {i : Nat} {d : PyData}, RpL K F vs ds → ds[i]? = some d → ∃ v, vs[i]? = some v ∧ Rp K F v d
  | _, _, _, _, .nil, e => by simp at e
  | _, _, 0, _, .cons h _, e => by simp at e; subst e; exact ⟨_, rfl, h⟩
  | _, _, i + 1, d, .cons _ q, e => by
    obtain ⟨v, h1, h2⟩ := RpL.get (i := i) (d := d) q (by simpa using e)
    exact ⟨v, by simpa using h1, h2⟩
theorem RpL.getV : ∀ {vs : List V} {ds : List PyData} {i : Nat} {v : V}, RpL K F vs ds → vs[i]? = some v → ∃ d, ds[i]? = some d ∧ Rp K F v d
  | _, _, _, _, .nil, e => by simp at e
  | _, _, 0, _, .cons h _, e => by simp at e; subst e; exact ⟨_, rfl, h⟩
  | _, _, i + 1, d, .cons _ q, e => by
    obtain ⟨v, h1, h2⟩ := RpL.getV (i := i) (v := d) q (by simpa using e)
    exact ⟨v, by simpa using h1, h2⟩
theorem RpL.append : ∀ {vs ws : List V} {ds es : List PyData}, RpL K F vs ds → RpL K F ws es → RpL K F (vs ++ ws) (ds ++ es)
  | _, _, _, _, .nil, q => q
  | _, _, _, _, .cons h t, q => .cons h (t.append q)
theorem RpL.take : ∀ (n : Nat) {vs : List V} {ds : List PyData}, RpL K F vs ds → RpL K F (vs.take n) (ds.take n)
  | 0, _, _, _ => by simpa using .nil
  | _ + 1, _, _, .nil => .nil
  | n + 1, _, _, .cons h q => .cons h (RpL.take n q)
theorem RpL.drop : ∀ (n : Nat) {vs : List V} {ds : List PyData}, RpL K F vs ds → RpL K F (vs.drop n) (ds.drop n)
  | 0, _, _, q => by simpa using q
  | _ + 1, _, _, .nil => .nil
  | n + 1, _, _, .cons _ q => RpL.drop n q
mutual
theorem Rp.dp : ∀ {v : V} {d : PyData}, Rp K F v d → d.canLay0 = true → Dp K F v d
  | _, _, .non, _ => .non
  | _, _, .bl b, _ => .bl b
  | _, _, .int i, _ => .int i
  | _, _, .str x, _ => .str x
  | _, _, .lst h q, c => .lst h (RpL.dp q c)
  | _, _, .tup h q, c => .tup h (RpL.dp q c)
  | _, _, .odd _, c => nomatch c
theorem RpL.dp : ∀ {vs : List V} {ds : List PyData}, RpL K F vs ds → PyData.canLayAll0 ds = true → DpAll K F vs ds
  | _, _, .nil, _ => .nil
  | _, d :: ds, .cons h q, c => by
    have c' : d.canLay0 = true ∧ PyData.canLayAll0 ds = true := by simpa [PyData.canLayAll0] using c
    exact .cons (Rp.dp h c'.1) (RpL.dp q c'.2)
end
end

/-! ### typed data -/
class Enc (α : Type) where
  enc : α → PyData
open Enc (enc)
instance : Enc Int := ⟨.int⟩
instance : Enc Bool := ⟨.bool⟩
instance : Enc Str := ⟨.str⟩
instance : Enc Unit := ⟨fun _ => .none⟩
instance : Enc PyData := ⟨id⟩
instance {α β : Type} [Enc α] [Enc β] : Enc (α × β) := ⟨fun p => .tuple [enc p.1, enc p.2]⟩
instance {α : Type} [Enc α] : Enc (List α) := ⟨fun xs => .list (xs.map enc)⟩
instance {α : Type} [Enc α] : Enc (Option α) := ⟨fun o => match o with | none => .none | some a => enc a⟩
structure T3 (α β γ : Type) where
  a : α
  b : β
  c : γ
  deriving DecidableEq
instance {α β γ : Type} [Enc α] [Enc β] [Enc γ] : Enc (T3 α β γ) := ⟨fun p => .tuple [enc p.a, enc p.b, enc p.c]⟩

/-! ### shapes: data, or what is owned and may change -/
inductive Sh where
  /-- nothing is known -/
  | any
  | dat (d : PyData)
  /-- the j-th of the things that were handed in -/
  | arg (j : Nat)
  /-- the j-th of the things made here that change -/
  | loc (j : Nat)
  /-- a list of one's own -/
  | ls (xs : List Sh)
  /-- a tuple of things of one's own -/
  | tp (xs : List Sh)
  /-- a dict of one's own -/
  | dk (ks : List Key) (xs : List Sh)
  /-- an instance -/
  | ins (C : Addr) (ns : List Str) (xs : List Sh)
abbrev Sh.of {α : Type} [Enc α] (a : α) : Sh := .dat (enc a)

mutual
inductive Sep (K : PySem.W.Frag) (ps : List V × List V) (F H : Hp) : Sh → V → List Addr → Prop
  | any {v : V} : Sep K ps F H .any v []
  | dat {d : PyData} {v : V} : Rp K F v d → Sep K ps F H (.dat d) v []
  | arg {j : Nat} {v : V} : ps.1[j]? = some v → Sep K ps F H (.arg j) v []
  | loc {j : Nat} {v : V} : ps.2[j]? = some v → Sep K ps F H (.loc j) v []
  | ls {xs : List Sh} {a : Addr} {vs : List V} {as : List Addr} : F a = none → H a = some (.lst vs) → SepL K ps F H xs vs as → Sep K ps F H (.ls xs) (.ref a) (a :: as)
  | tp {xs : List Sh} {a : Addr} {vs : List V} {as : List Addr} : SqT K F a vs → SepL K ps F H xs vs as → Sep K ps F H (.tp xs) (.ref a) as
  | dk {ks : List Key} {xs : List Sh} {a : Addr} {vs : List V} {as : List Addr} : F a = none → H a = some (.dK (ks.zip vs)) → ks.length = vs.length → SepL K ps F H xs vs as → Sep K ps F H (.dk ks xs) (.ref a) (a :: as)
  | ins {C : Addr} {ns : List Str} {xs : List Sh} {a dx : Addr} {vs : List V} {as : List Addr} : F a = none → F dx = none → H a = some (.ins C dx (ns.zip vs)) → H dx = some (.own a) → ns.length = vs.length → SepL K ps F H xs vs as →
      Sep K ps F H (.ins C ns xs) (.ref a) (a :: dx :: as)
inductive SepL (K : PySem.W.Frag) (ps : List V × List V) (F H : Hp) : List Sh → List V → List Addr → Prop
  | nil : SepL K ps F H [] [] []
  | cons {s : Sh} {ss : List Sh} {v : V} {vs : List V} {as bs : List Addr} : Sep K ps F H s v as → SepL K ps F H ss vs bs → SepL K ps F H (s :: ss) (v :: vs) (as ++ bs)
end
/-- the slots of a frame -/
inductive Slots (K : PySem.W.Frag) (ps : List V × List V) (F H : Hp) : List Sh → List (Option V) → List Addr → Prop
  | nil : Slots K ps F H [] [] []
  | no {ss : List Sh} {o : Option V} {os : List (Option V)} {bs : List Addr} : Slots K ps F H ss os bs → Slots K ps F H (.any :: ss) (o :: os) bs
  | cons {s : Sh} {ss : List Sh} {v : V} {os : List (Option V)} {as bs : List Addr} : Sep K ps F H s v as → Slots K ps F H ss os bs → Slots K ps F H (s :: ss) (some v :: os) (as ++ bs)

section
variable {K : PySem.W.Frag} {ps : List V × List V} {F F' H H' : Hp}
mutual
theorem Sep.mono (e : Same F F') : ∀ {s : Sh} {v : V} {as : List Addr}, (∀ a ∈ as, F' a = none ∧ H' a = H a) → Sep K ps F H s v as → Sep K ps F' H' s v as
  | _, _, _, _, .any => .any
  | _, _, _, _, .dat h => .dat (h.mono e)
  | _, _, _, _, .arg h => .arg h
  | _, _, _, _, .loc h => .loc h
  | _, _, _, k, .ls h1 h2 q => .ls (k _ (List.mem_cons_self ..)).1 ((k _ (List.mem_cons_self ..)).2.trans h2) (SepL.mono e (fun a m => k a (List.mem_cons_of_mem _ m)) q)
  | _, _, _, k, .tp h q => .tp (sqT_mono e h) (SepL.mono e k q)
  | _, _, _, k, .dk h1 h2 h3 q => .dk (k _ (List.mem_cons_self ..)).1 ((k _ (List.mem_cons_self ..)).2.trans h2) h3 (SepL.mono e (fun a m => k a (List.mem_cons_of_mem _ m)) q)
  | _, _, _, k, .ins h1 h2 h3 h4 h5 q => .ins (k _ (List.mem_cons_self ..)).1 (k _ (List.mem_cons_of_mem _ (List.mem_cons_self ..))).1 ((k _ (List.mem_cons_self ..)).2.trans h3)
      ((k _ (List.mem_cons_of_mem _ (List.mem_cons_self ..))).2.trans h4) h5 (SepL.mono e (fun a m => k a (List.mem_cons_of_mem _ (List.mem_cons_of_mem _ m))) q)
theorem SepL.mono (e : Same F F') : ∀ {ss : List Sh} {vs : List V} {as : List Addr}, (∀ a ∈ as, F' a = none ∧ H' a = H a) → SepL K ps F H ss vs as → SepL K ps F' H' ss vs as
  | _, _, _, _, .nil => .nil
  | _, _, _, k, .cons h q => .cons (Sep.mono e (fun a m => k a (List.mem_append_left _ m)) h) (SepL.mono e (fun a m => k a (List.mem_append_right _ m)) q)
end
theorem Slots.mono (e : Same F F') : ∀ {ss : List Sh} {vs : List (Option V)} {as : List Addr}, (∀ a ∈ as, F' a = none ∧ H' a = H a) → Slots K ps F H ss vs as → Slots K ps F' H' ss vs as
  | _, _, _, _, .nil => .nil
  | _, _, _, k, .no q => .no (Slots.mono e k q)
  | _, _, _, k, .cons h q => .cons (Sep.mono e (fun a m => k a (List.mem_append_left _ m)) h) (Slots.mono e (fun a m => k a (List.mem_append_right _ m)) q)
mutual
theorem Sep.there : ∀ {s : Sh} {v : V} {as : List Addr}, Sep K ps F H s v as → ∀ a ∈ as, F a = none ∧ H a ≠ none
  | _, _, _, .any, _, m => nomatch m
  | _, _, _, .dat _, _, m => nomatch m
  | _, _, _, .arg _, _, m => nomatch m
  | _, _, _, .loc _, _, m => nomatch m
  | _, _, _, .ls h1 h2 q, a, m => by
    rcases List.mem_cons.mp m with rfl | m
    · exact ⟨h1, by rw [h2]; exact nofun⟩
    · exact SepL.there q a m
  | _, _, _, .tp _ q, a, m => SepL.there q a m
  | _, _, _, .dk h1 h2 _ q, a, m => by
    rcases List.mem_cons.mp m with rfl | m
    · exact ⟨h1, by rw [h2]; exact nofun⟩
    · exact SepL.there q a m
  | _, _, _, .ins h1 h2 h3 h4 _ q, a, m => by
    rcases List.mem_cons.mp m with rfl | m
    · exact ⟨h1, by rw [h3]; exact nofun⟩
    rcases List.mem_cons.mp m with rfl | m
    · exact ⟨h2, by rw [h4]; exact nofun⟩
    · exact SepL.there q a m
theorem SepL.there : ∀ {ss : List Sh} {vs : List V} {as : List Addr}, SepL K ps F H ss vs as → ∀ a ∈ as, F a = none ∧ H a ≠ none
  | _, _, _, .nil, _, m => nomatch m
  | _, _, _, .cons h q, a, m => (List.mem_append.mp m).elim (Sep.there h a) (SepL.there q a)
end
theorem Slots.there : ∀ {ss : List Sh} {vs : List (Option V)} {as : List Addr}, Slots K ps F H ss vs as → ∀ a ∈ as, F a = none ∧ H a ≠ none
  | _, _, _, .nil, _, m => nomatch m
  | _, _, _, .no q, a, m => Slots.there q a m
  | _, _, _, .cons h q, a, m => (List.mem_append.mp m).elim (Sep.there h a) (Slots.there q a)
theorem Slots.length : ∀ {ss : List Sh} {vs : List (Option V)} {as : List Addr}, Slots K ps F H ss vs as → ss.length = vs.length
  | _, _, _, .nil => rfl
  | _, _, _, .no q => by rw [List.length_cons, List.length_cons, Slots.length q]
  | _, _, _, .cons _ q => by rw [List.length_cons, List.length_cons, Slots.length q]
theorem SepL.length : ∀ {ss : List Sh} {vs : List V} {as : List Addr}, SepL K ps F H ss vs as → ss.length = vs.length
  | _, _, _, .nil => rfl
  | _, _, _, .cons _ q => by rw [List.length_cons, List.length_cons, SepL.length q]
theorem SepL.append : ∀ {ss ss' : List Sh} {vs vs' : List V} {as as' : List Addr}, SepL K ps F H ss vs as → SepL K ps F H ss' vs' as' → SepL K ps F H (ss ++ ss') (vs ++ vs') (as ++ as')
  | _, _, _, _, _, _, .nil, q => q
  | _, _, _, _, _, _, .cons h t, q => by
    rw [List.append_assoc]
    exact .cons h (t.append q)
theorem SepL.split : ∀ {ss ss' : List Sh} {ws : List V} {as : List Addr}, SepL K ps F H (ss ++ ss') ws as → ∃ vs vs' bs bs', ws = vs ++ vs' ∧ as = bs ++ bs' ∧ SepL K ps F H ss vs bs ∧ SepL K ps F H ss' vs' bs'
  | [], _, ws, as, h => ⟨[], ws, [], as, rfl, rfl, .nil, h⟩
  | s :: ss, ss', _, _, .cons h q => by
    obtain ⟨vs, vs', bs, bs', rfl, rfl, h1, h2⟩ := SepL.split q
    exact ⟨_ :: vs, vs', _, bs', rfl, (List.append_assoc ..).symm, .cons h h1, h2⟩
/-- all of it data -/
theorem SepL.data : ∀ {ds : List PyData} {vs : List V} {as : List Addr}, SepL K ps F H (ds.map Sh.dat) vs as → RpL K F vs ds ∧ as = []
  | [], _, _, .nil => ⟨.nil, rfl⟩
  | _ :: _, _, _, .cons (.dat h) q => by
    obtain ⟨q1, rfl⟩ := SepL.data q
    exact ⟨.cons h q1, rfl⟩
theorem SepL.ofData : ∀ {ds : List PyData} {vs : List V}, RpL K F vs ds → SepL K ps F H (ds.map Sh.dat) vs []
  | [], _, .nil => .nil
  | _ :: _, _, .cons h q => .cons (as := []) (.dat h) (SepL.ofData q)
end


/-! ### slots taken, given -/
section
variable {K : PySem.W.Frag} {ps : List V × List V} {F F' H H' : Hp}
/-- what a slot has is taken out of it -/
theorem Slots.move : ∀ {ss : List Sh} {os : List (Option V)} {as : List Addr} {i : Nat} {s : Sh}, Slots K ps F H ss os as → ss[i]? = some s → s ≠ .any →
    ∃ v bs rest, os[i]? = some (some v) ∧ Sep K ps F H s v bs ∧ Slots K ps F H (ss.set i .any) os rest ∧ as.Perm (bs ++ rest)
  | _, _, _, _, _, .nil, e, _ => by simp at e
  | _, _, _, 0, _, .no _, e, n => by simp at e; exact absurd e.symm n
  | _, _, _, 0, _, .cons h q, e, _ => by
    simp at e; subst e
    exact ⟨_, _, _, rfl, h, .no q, .refl _⟩
  | _, _, _, i + 1, s, .no q, e, n => by
    obtain ⟨v, bs, rest, h1, h2, h3, h4⟩ := Slots.move (i := i) (s := s) q (by simpa using e) n
    exact ⟨v, bs, rest, by simpa using h1, h2, .no h3, h4⟩
  | _, _, _, i + 1, s, .cons (as := as) h q, e, n => by
    obtain ⟨v, bs, rest, h1, h2, h3, h4⟩ := Slots.move (i := i) (s := s) q (by simpa using e) n
    refine ⟨v, bs, as ++ rest, by simpa using h1, h2, .cons h h3, (h4.append_left _).trans ?_⟩
    rw [← List.append_assoc, ← List.append_assoc]
    exact List.Perm.append_right _ List.perm_append_comm
/-- a name is stored -/
theorem Slots.store : ∀ {ss : List Sh} {os : List (Option V)} {as : List Addr} {i : Nat} {s : Sh} {v : V} {bs : List Addr}, Slots K ps F H ss os as → i < ss.length → Sep K ps F H s v bs →
    ∃ as' rest, Slots K ps F H (ss.set i s) (os.set i (some v)) as' ∧ as'.Perm (bs ++ rest) ∧ rest.Sublist as
  | _, _, _, _, _, _, _, .nil, e, _ => by simp at e
  | _, _, _, 0, _, _, _, .no q, _, h => ⟨_, _, .cons h q, .refl _, .refl _⟩
  | _, _, _, 0, _, _, _, .cons _ q, _, h => ⟨_, _, .cons h q, .refl _, List.sublist_append_right ..⟩
  | _, _, _, i + 1, _, _, _, .no q, e, h => by
    obtain ⟨as', rest, h1, h2, h3⟩ := Slots.store (i := i) q (by simpa using e) h
    exact ⟨as', rest, .no h1, h2, h3⟩
  | _, _, _, i + 1, _, _, bs, .cons (as := as) h0 q, e, h => by
    obtain ⟨as', rest, h1, h2, h3⟩ := Slots.store (i := i) q (by simpa using e) h
    refine ⟨as ++ as', as ++ rest, .cons h0 h1, (h2.append_left _).trans ?_, List.Sublist.append_left h3 _⟩
    rw [← List.append_assoc, ← List.append_assoc]
    exact List.Perm.append_right _ List.perm_append_comm
theorem Slots.drop : ∀ {ss : List Sh} {os : List (Option V)} {as : List Addr} (i : Nat), Slots K ps F H ss os as → ∃ as', Slots K ps F H (ss.set i .any) os as' ∧ as'.Sublist as
  | _, _, _, _, .nil => ⟨[], .nil, .refl _⟩
  | _, _, _, 0, .no q => ⟨_, .no q, .refl _⟩
  | _, _, _, 0, .cons _ q => ⟨_, .no q, List.sublist_append_right ..⟩
  | _, _, _, i + 1, .no q => by
    obtain ⟨as', h1, h2⟩ := Slots.drop i q
    exact ⟨as', .no h1, h2⟩
  | _, _, _, i + 1, .cons (as := as) h q => by
    obtain ⟨as', h1, h2⟩ := Slots.drop i q
    exact ⟨as ++ as', .cons h h1, List.Sublist.append_left h2 _⟩
/-- the frame's slot is wiped -/
theorem Slots.wipe : ∀ {ss : List Sh} {os : List (Option V)} {as : List Addr} (i : Nat), Slots K ps F H ss os as → ∃ as', Slots K ps F H (ss.set i .any) (os.set i none) as' ∧ as'.Sublist as
  | _, _, _, _, .nil => ⟨[], .nil, .refl _⟩
  | _, _, _, 0, .no q => ⟨_, .no q, .refl _⟩
  | _, _, _, 0, .cons _ q => ⟨_, .no q, List.sublist_append_right ..⟩
  | _, _, _, i + 1, .no q => by
    obtain ⟨as', h1, h2⟩ := Slots.wipe i q
    exact ⟨as', .no h1, h2⟩
  | _, _, _, i + 1, .cons (as := as) h q => by
    obtain ⟨as', h1, h2⟩ := Slots.wipe i q
    exact ⟨as ++ as', .cons h h1, List.Sublist.append_left h2 _⟩
/-- of a list of things: one at its place, changed -/
theorem SepL.at : ∀ {ss : List Sh} {vs : List V} {as : List Addr} {i : Nat} {s : Sh}, SepL K ps F H ss vs as → ss[i]? = some s →
    ∃ v bs pre post, vs[i]? = some v ∧ Sep K ps F H s v bs ∧ as = pre ++ (bs ++ post) ∧ ∀ F' H' s' bs', Same F F' → (∀ a ∈ pre ++ post, F' a = none ∧ H' a = H a) → Sep K ps F' H' s' v bs' → SepL K ps F' H' (ss.set i s') vs (pre ++ (bs' ++ post))
  | _, _, _, _, _, .nil, e => by simp at e
  | _, _, _, 0, _, .cons (as := as) (bs := bs) h q, e => by
    simp at e; subst e
    exact ⟨_, as, [], bs, rfl, h, rfl, fun F' H' s' bs' e k h' => SepL.cons (as := bs') h' (q.mono e (fun a m => k a (by simpa using m)))⟩
  | _, _, _, i + 1, s, .cons (as := as) h q, e => by
    obtain ⟨v, bs, pre, post, h1, h2, rfl, h4⟩ := SepL.at (i := i) (s := s) q (by simpa using e)
    refine ⟨v, bs, as ++ pre, post, by simpa using h1, h2, (List.append_assoc ..).symm, fun F' H' s' bs' e k h' => ?_⟩
    rw [List.append_assoc]
    refine .cons (h.mono e fun a m => k a (by simp [m])) (h4 F' H' s' bs' e (fun a m => k a ?_) h')
    rcases List.mem_append.mp m with m | m
    · simp [m]
    · simp [m]
theorem SepL.snoc {ss : List Sh} {vs : List V} {as bs : List Addr} {s : Sh} {v : V} (h : SepL K ps F H ss vs as) (h' : Sep K ps F H s v bs) : SepL K ps F H (ss ++ [s]) (vs ++ [v]) (as ++ bs) := by
  have q := h.append (.cons h' .nil)
  simpa using q
mutual
theorem Sep.more {qs : List V} : ∀ {s : Sh} {v : V} {as : List Addr}, Sep K ps F H s v as → Sep K (ps.1, ps.2 ++ qs) F H s v as
  | _, _, _, .any => .any
  | _, _, _, .dat h => .dat h
  | _, _, _, .arg h => .arg h
  | _, _, _, .loc (j := j) h => .loc (by
      show (ps.2 ++ qs)[j]? = _
      rw [List.getElem?_append_left (List.getElem?_eq_some_iff.mp h).1]; exact h)
  | _, _, _, .ls h1 h2 q => .ls h1 h2 (SepL.more q)
  | _, _, _, .tp h q => .tp h (SepL.more q)
  | _, _, _, .dk h1 h2 h3 q => .dk h1 h2 h3 (SepL.more q)
  | _, _, _, .ins h1 h2 h3 h4 h5 q => .ins h1 h2 h3 h4 h5 (SepL.more q)
theorem SepL.more {qs : List V} : ∀ {ss : List Sh} {vs : List V} {as : List Addr}, SepL K ps F H ss vs as → SepL K (ps.1, ps.2 ++ qs) F H ss vs as
  | _, _, _, .nil => .nil
  | _, _, _, .cons h q => .cons (Sep.more h) (SepL.more q)
end
theorem Slots.more {qs : List V} : ∀ {ss : List Sh} {os : List (Option V)} {as : List Addr}, Slots K ps F H ss os as → Slots K (ps.1, ps.2 ++ qs) F H ss os as
  | _, _, _, .nil => .nil
  | _, _, _, .no q => .no (Slots.more q)
  | _, _, _, .cons h q => .cons h.more (Slots.more q)
end
/-! what is told of things made below the n-th alone -/
mutual
def Sh.bel (n : Nat) : Sh → Bool
  | .loc j => decide (j < n)
  | .ls xs => Sh.belL n xs
  | .tp xs => Sh.belL n xs
  | .dk _ xs => Sh.belL n xs
  | .ins _ _ xs => Sh.belL n xs
  | _ => true
def Sh.belL (n : Nat) : List Sh → Bool
  | [] => true
  | x :: xs => x.bel n && Sh.belL n xs
end
section
variable {K : PySem.W.Frag} {ps : List V × List V} {F F' H H' : Hp}
mutual
theorem Sep.isBelow : ∀ {s : Sh} {v : V} {as : List Addr}, Sep K ps F H s v as → s.bel ps.2.length = true
  | _, _, _, .any => rfl
  | _, _, _, .dat _ => rfl
  | _, _, _, .arg _ => rfl
  | _, _, _, .loc h => decide_eq_true (List.getElem?_eq_some_iff.mp h).1
  | _, _, _, .ls _ _ q => SepL.isBelow q
  | _, _, _, .tp _ q => SepL.isBelow q
  | _, _, _, .dk _ _ _ q => SepL.isBelow q
  | _, _, _, .ins _ _ _ _ _ q => SepL.isBelow q
theorem SepL.isBelow : ∀ {ss : List Sh} {vs : List V} {as : List Addr}, SepL K ps F H ss vs as → Sh.belL ps.2.length ss = true
  | _, _, _, .nil => rfl
  | _, _, _, .cons h q => by unfold Sh.belL; rw [Sep.isBelow h, SepL.isBelow q]; rfl
end
mutual
theorem Sep.less {qs : List V} : ∀ {s : Sh} {v : V} {as : List Addr}, s.bel ps.2.length = true → Sep K (ps.1, ps.2 ++ qs) F H s v as → Sep K ps F H s v as
  | .any, _, _, _, h => by cases h; exact .any
  | .dat _, _, _, _, h => by cases h with | dat h => exact .dat h
  | .arg _, _, _, _, h => by cases h with | arg h => exact .arg h
  | .loc j, _, _, b, h => by
    cases h with
    | loc h =>
      have h : (ps.2 ++ qs)[j]? = _ := h
      rw [List.getElem?_append_left (of_decide_eq_true b)] at h
      exact .loc h
  | .ls xs, _, _, b, h => by cases h with | ls h1 h2 q => exact .ls h1 h2 (SepL.less b q)
  | .tp xs, _, _, b, h => by cases h with | tp h1 q => exact .tp h1 (SepL.less b q)
  | .dk _ xs, _, _, b, h => by cases h with | dk h1 h2 h3 q => exact .dk h1 h2 h3 (SepL.less b q)
  | .ins _ _ xs, _, _, b, h => by cases h with | ins h1 h2 h3 h4 h5 q => exact .ins h1 h2 h3 h4 h5 (SepL.less b q)
theorem SepL.less {qs : List V} : ∀ {ss : List Sh} {vs : List V} {as : List Addr}, Sh.belL ps.2.length ss = true → SepL K (ps.1, ps.2 ++ qs) F H ss vs as → SepL K ps F H ss vs as
  | [], _, _, _, h => by cases h; exact .nil
  | s :: ss, _, _, b, h => by
    have b' : s.bel ps.2.length = true ∧ Sh.belL ps.2.length ss = true := by simpa [Sh.belL] using b
    cases h with | cons h q => exact .cons (Sep.less b'.1 h) (SepL.less b'.2 q)
end
def Sh.cut (n : Nat) (s : Sh) : Sh := if s.bel n then s else .any
theorem Slots.less {qs : List V} : ∀ {ss : List Sh} {os : List (Option V)} {as : List Addr}, Slots K (ps.1, ps.2 ++ qs) F H ss os as → ∃ as', Slots K ps F H (ss.map (Sh.cut ps.2.length)) os as' ∧ as'.Sublist as
  | _, _, _, .nil => ⟨[], .nil, .refl _⟩
  | _, _, _, .no q => by
    obtain ⟨as', h1, h2⟩ := Slots.less q
    refine ⟨as', ?_, h2⟩
    rw [List.map_cons, show Sh.cut ps.2.length .any = .any from if_pos rfl]
    exact .no h1
  | s :: _, _, _, .cons (as := as) h q => by
    obtain ⟨as', h1, h2⟩ := Slots.less q
    by_cases hb : s.bel ps.2.length = true
    · refine ⟨as ++ as', ?_, List.Sublist.append_left h2 _⟩
      rw [List.map_cons, Sh.cut, if_pos hb]
      exact .cons (h.less hb) h1
    · refine ⟨as', ?_, h2.trans (List.sublist_append_right ..)⟩
      rw [List.map_cons, Sh.cut, if_neg hb]
      exact .no h1
end
mutual
def Sh.data : Sh → Option PyData
  | .dat d => some d
  | .ls xs => (Sh.dataL xs).map .list
  | .tp xs => (Sh.dataL xs).map .tuple
  | _ => none
def Sh.dataL : List Sh → Option (List PyData)
  | [] => some []
  | x :: xs => match x.data, Sh.dataL xs with
    | some d, some ds => some (d :: ds)
    | _, _ => none
end
theorem dataL_map : ∀ ds : List PyData, Sh.dataL (ds.map Sh.dat) = some ds
  | [] => rfl
  | d :: ds => by
    rw [List.map_cons, Sh.dataL, dataL_map ds]
    rfl
section
variable {K : PySem.W.Frag} {ps : List V × List V} {F F' H H' : Hp}
mutual
theorem Sep.frozen (e : Same F F') : ∀ {s : Sh} {v : V} {as : List Addr} {d : PyData}, Sep K ps F H s v as → s.data = some d → (∀ a ∈ as, F' a = H a) → Rp K F' v d
  | _, _, _, _, .any, h, _ => by simp [Sh.data] at h
  | _, _, _, _, .dat r, h, _ => by simp [Sh.data] at h; subst h; exact r.mono e
  | _, _, _, _, .arg _, h, _ => by simp [Sh.data] at h
  | _, _, _, _, .loc _, h, _ => by simp [Sh.data] at h
  | _, _, _, _, .ls h1 h2 q, h, k => by
    simp only [Sh.data, Option.map_eq_some_iff] at h
    obtain ⟨ds, h, rfl⟩ := h
    exact .lst (.inl (.inl ((k _ (List.mem_cons_self ..)).trans h2))) (SepL.frozen e q h fun a m => k a (List.mem_cons_of_mem _ m))
  | _, _, _, _, .tp h1 q, h, k => by
    simp only [Sh.data, Option.map_eq_some_iff] at h
    obtain ⟨ds, h, rfl⟩ := h
    exact .tup (sqT_mono e h1) (SepL.frozen e q h k)
  | _, _, _, _, .dk _ _ _ _, h, _ => by simp [Sh.data] at h
  | _, _, _, _, .ins _ _ _ _ _ _, h, _ => by simp [Sh.data] at h
theorem SepL.frozen (e : Same F F') : ∀ {ss : List Sh} {vs : List V} {as : List Addr} {ds : List PyData}, SepL K ps F H ss vs as → Sh.dataL ss = some ds → (∀ a ∈ as, F' a = H a) → RpL K F' vs ds
  | _, _, _, _, .nil, h, _ => by simp [Sh.dataL] at h; subst h; exact .nil
  | s :: ss, _, _, _, .cons r q, h, k => by
    unfold Sh.dataL at h
    split at h
    · rename_i d ds e1 e2
      cases h
      exact .cons (Sep.frozen e r e1 fun a m => k a (List.mem_append_left _ m)) (SepL.frozen e q e2 fun a m => k a (List.mem_append_right _ m))
    · cases h
end
end

/-! ### the state of a body -/
/-- the entry: what stays (F0), all (H0), what may be changed -/
structure Bs where
  F0 : Hp
  H0 : Hp
  M : List Addr
/-- the context: what was handed in, what was made here and changes, the names -/
structure Cn where
  P : List Sh
  L : List Sh
  G : List Sh
abbrev Cn.set (C : Cn) (i : Nat) (s : Sh) : Cn := ⟨C.P, C.L, C.G.set i s⟩
structure Ok (K : PySem.W.Frag) (B : Bs) (ps : List V × List V) (ts : List V) (T : List Sh) (σ : L2.St) (C : Cn) (F H : Hp) : Prop where
  ff : Same B.F0 F
  sub : Same F H
  keep : ∀ a o, B.H0 a = some o → a ∉ B.M → H a = some o
  st : ∀ a, B.H0 a ≠ none → H a ≠ none
  own : ∀ a, B.F0 a = none → B.H0 a ≠ none → F a = none
  sl : ∃ es ls as bs, SepL K ps F H C.P ps.1 es ∧ SepL K ps F H C.L ps.2 ls ∧ SepL K ps F H T ts as ∧ Slots K ps F H C.G σ bs ∧ (es ++ (ls ++ (as ++ bs))).Nodup ∧ (∀ a ∈ es, B.H0 a = none ∨ a ∈ B.M) ∧ ∀ a ∈ ls ++ (as ++ bs), B.H0 a = none

section
variable {K : PySem.W.Frag} {B : Bs} {ps : List V × List V} {ts : List V} {T : List Sh} {σ : L2.St} {C : Cn} {F H : Hp} {v w : V} {s s' : Sh} {d : PyData} {p : Addr} {i j : Nat}
theorem Ok.push (k : Ok K B ps ts T σ C F H) (h : Rp K F v d) : Ok K B ps (v :: ts) (.dat d :: T) σ C F H := by
  obtain ⟨es, ls, as, bs, h1, h0, h2, h3, h4⟩ := k.sl
  exact ⟨k.ff, k.sub, k.keep, k.st, k.own, es, ls, as, bs, h1, h0, .cons (as := []) (.dat h) h2, h3, h4⟩
theorem Ok.pushArg (k : Ok K B ps ts T σ C F H) (h : ps.1[j]? = some v) : Ok K B ps (v :: ts) (.arg j :: T) σ C F H := by
  obtain ⟨es, ls, as, bs, h1, h0, h2, h3, h4⟩ := k.sl
  exact ⟨k.ff, k.sub, k.keep, k.st, k.own, es, ls, as, bs, h1, h0, .cons (as := []) (.arg h) h2, h3, h4⟩
theorem Ok.pushLoc (k : Ok K B ps ts T σ C F H) (h : ps.2[j]? = some v) : Ok K B ps (v :: ts) (.loc j :: T) σ C F H := by
  obtain ⟨es, ls, as, bs, h1, h0, h2, h3, h4⟩ := k.sl
  exact ⟨k.ff, k.sub, k.keep, k.st, k.own, es, ls, as, bs, h1, h0, .cons (as := []) (.loc h) h2, h3, h4⟩
theorem Ok.pop (k : Ok K B ps (v :: ts) (s :: T) σ C F H) : Ok K B ps ts T σ C F H := by
  obtain ⟨es, ls, as, bs, h1, h0, h2, h3, h4, h5, h6⟩ := k.sl
  cases h2 with
  | cons h2 h7 =>
    rename_i a1 a2
    refine ⟨k.ff, k.sub, k.keep, k.st, k.own, es, ls, a2, bs, h1, h0, h7, h3, ?_, h5, fun a m => h6 a ?_⟩
    · refine h4.sublist (List.Sublist.append_left (List.Sublist.append_left ?_ _) _)
      exact List.Sublist.append_right (List.sublist_append_right ..) _
    · simp only [List.mem_append] at m ⊢
      rcases m with m | m | m
      · exact .inl m
      · exact .inr (.inl (.inr m))
      · exact .inr (.inr m)
theorem Ok.top (k : Ok K B ps (v :: ts) (.dat d :: T) σ C F H) : Rp K F v d := by
  obtain ⟨es, ls, as, bs, h1, h0, h2, h3, h4⟩ := k.sl
  cases h2 with
  | cons h2 h7 => cases h2 with | dat h => exact h
theorem Ok.fresh (k : Ok K B ps ts T σ C F H) (h : H p = none) : F p = none ∧ B.H0 p = none := by
  constructor
  · cases q : F p with
    | none => rfl
    | some o => rw [k.sub p o q] at h; cases h
  · cases q : B.H0 p with
    | none => rfl
    | some o => exact absurd h (k.st p (by rw [q]; exact nofun))
theorem ne_new {as : List Addr} (q : ∀ a ∈ as, F a = none ∧ H a ≠ none) (h : H p = none) {o : HO} : ∀ a ∈ as, (upd F p o) a = none ∧ (upd H p o) a = H a := fun a m => by
  have ne : a ≠ p := fun e => (q a m).2 (e ▸ h)
  rw [upd_ne ne, upd_ne ne]
  exact ⟨(q a m).1, rfl⟩
theorem same_new {o : HO} (h : H p = none) : Same H (upd H p o) := fun a u e => by
  rw [upd_ne (ne_of_none e h)]
  exact e
/-- a new object that will not change -/
theorem Ok.laid {o : HO} (k : Ok K B ps ts T σ C F H) (h : H p = none) : Ok K B ps ts T σ C (upd F p o) (upd H p o) := by
  obtain ⟨es, ls, as, bs, h1, h0, h2, h3, h4, h5, h6⟩ := k.sl
  obtain ⟨f1, f2⟩ := k.fresh h
  have sF : Same F (upd F p o) := same_new f1
  refine ⟨k.ff.trans sF, fun a u e => ?_, fun a u e m => ?_, fun a e => ?_, fun a e1 e2 => ?_, es, ls, as, bs, h1.mono sF (ne_new h1.there h), h0.mono sF (ne_new h0.there h), h2.mono sF (ne_new h2.there h), h3.mono sF (ne_new h3.there h), h4, h5, h6⟩
  · by_cases e1 : a = p
    · subst e1; rw [upd_same] at e ⊢; exact e
    · rw [upd_ne e1] at e ⊢; exact k.sub a u e
  · rw [upd_ne (ne_of_none (k.keep a u e m) h)]
    exact k.keep a u e m
  · by_cases e1 : a = p
    · subst e1; rw [upd_same]; exact nofun
    · rw [upd_ne e1]; exact k.st a e
  · have ne : a ≠ p := fun e => e2 (e ▸ f2)
    rw [upd_ne ne]
    exact k.own a e1 e2
theorem upd_there {o : HO} (h : ∀ a, B.H0 a ≠ none → H a ≠ none) : ∀ a, B.H0 a ≠ none → upd H p o a ≠ none := fun a e => by
  by_cases e1 : a = p
  · subst e1; rw [upd_same]; exact nofun
  · rw [upd_ne e1]; exact h a e
/-- a new object of one's own: what it holds was made ahead -/
theorem Ok.mine {vs : List V} {ss : List Sh} {o : HO} {s : Sh} (k : Ok K B ps (vs ++ ts) (ss ++ T) σ C F H) (h : H p = none) (hl : ss.length = vs.length)
    (mk : ∀ as, SepL K ps F (upd H p o) ss vs as → Sep K ps F (upd H p o) s (.ref p) (p :: as)) : Ok K B ps (.ref p :: ts) (s :: T) σ C F (upd H p o) := by
  obtain ⟨es, ls, as, bs, h1, h0, h2, h3, h4, h5, h6⟩ := k.sl
  obtain ⟨f1, f2⟩ := k.fresh h
  obtain ⟨ws, ws', cs, cs', e1, rfl, q1, q2⟩ := h2.split
  have el : ws.length = vs.length := by rw [← q1.length, hl]
  obtain ⟨rfl, rfl⟩ := List.append_inj e1 el.symm
  have ne : ∀ {as : List Addr}, (∀ a ∈ as, F a = none ∧ H a ≠ none) → ∀ a ∈ as, F a = none ∧ (upd H p o) a = H a := fun q a m =>
    ⟨(q a m).1, (ne_new (o := o) q h a m).2⟩
  have np : ∀ {as : List Addr}, (∀ a ∈ as, F a = none ∧ H a ≠ none) → p ∉ as := fun q m => (q p m).2 h
  refine ⟨k.ff, fun a u e => ?_, fun a u e m => ?_, upd_there k.st, k.own, es, ls, (p :: cs) ++ cs', bs, h1.mono (Same.refl _) (ne h1.there), h0.mono (Same.refl _) (ne h0.there), .cons (mk cs (q1.mono (Same.refl _) (ne q1.there))) (q2.mono (Same.refl _) (ne q2.there)), h3.mono (Same.refl _) (ne h3.there), ?_, h5, fun a m => ?_⟩
  · rw [upd_ne (ne_of_none (k.sub a u e) h)]
    exact k.sub a u e
  · rw [upd_ne (ne_of_none (k.keep a u e m) h)]
    exact k.keep a u e m
  · have hp : (es ++ (ls ++ ((p :: cs) ++ cs' ++ bs))).Perm (p :: (es ++ (ls ++ (cs ++ cs' ++ bs)))) := by
      simp only [List.cons_append]
      exact (List.perm_middle.append_left es).trans List.perm_middle
    refine hp.nodup_iff.mpr (List.nodup_cons.mpr ⟨fun m => ?_, h4⟩)
    simp only [List.mem_append] at m
    rcases m with m | m | (m | m) | m
    · exact np h1.there m
    · exact np h0.there m
    · exact np q1.there m
    · exact np q2.there m
    · exact np h3.there m
  · simp only [List.cons_append, List.mem_append, List.mem_cons] at m
    rcases m with m | (rfl | m | m) | m
    · exact h6 a (List.mem_append_left _ m)
    · exact f2
    · exact h6 a (List.mem_append_right _ (by simpa only [List.mem_append] using m))
/-- what stands in a slot -/
theorem Ok.slot (k : Ok K B ps ts T σ C F H) (h : C.G[i]? = some s) (n : s ≠ .any) : ∃ v bs, σ[i]? = some (some v) ∧ Sep K ps F H s v bs := by
  obtain ⟨es, ls, as, bs, h1, h0, h2, h3, h4⟩ := k.sl
  obtain ⟨v, cs, rest, e1, e2, _⟩ := h3.move h n
  exact ⟨v, cs, e1, e2⟩
theorem Ok.slotD (k : Ok K B ps ts T σ C F H) (h : C.G[i]? = some (.dat d)) : ∃ v, σ[i]? = some (some v) ∧ Rp K F v d := by
  obtain ⟨v, bs, e1, e2⟩ := k.slot h nofun
  cases e2 with | dat r => exact ⟨v, e1, r⟩
theorem Ok.slotA (k : Ok K B ps ts T σ C F H) (h : C.G[i]? = some (.arg j)) : ∃ v, σ[i]? = some (some v) ∧ ps.1[j]? = some v := by
  obtain ⟨v, bs, e1, e2⟩ := k.slot h nofun
  cases e2 with | arg r => exact ⟨v, e1, r⟩
theorem Ok.slotL (k : Ok K B ps ts T σ C F H) (h : C.G[i]? = some (.loc j)) : ∃ v, σ[i]? = some (some v) ∧ ps.2[j]? = some v := by
  obtain ⟨v, bs, e1, e2⟩ := k.slot h nofun
  cases e2 with | loc r => exact ⟨v, e1, r⟩
/-- a name is stored -/
theorem Ok.store (k : Ok K B ps (v :: ts) (s :: T) σ C F H) (hi : i < C.G.length) : Ok K B ps ts T (σ.set i (some v)) (C.set i s) F H := by
  obtain ⟨es, ls, as, bs, h1, h0, h2, h3, h4, h5, h6⟩ := k.sl
  cases h2 with
  | cons h2 h7 =>
    rename_i a1 a2
    obtain ⟨bs', rest, q1, q2, q3⟩ := h3.store hi h2
    have hp : (es ++ (ls ++ (a2 ++ bs'))).Perm (es ++ (ls ++ (a1 ++ (a2 ++ rest)))) := by
      refine List.Perm.append_left _ (List.Perm.append_left _ ((q2.append_left _).trans ?_))
      rw [← List.append_assoc, ← List.append_assoc]
      exact List.Perm.append_right _ List.perm_append_comm
    have hs : (es ++ (ls ++ (a1 ++ (a2 ++ rest)))).Sublist (es ++ (ls ++ ((a1 ++ a2) ++ bs))) := by
      rw [List.append_assoc a1 a2 bs]
      exact List.Sublist.append_left (List.Sublist.append_left (List.Sublist.append_left (List.Sublist.append_left q3 _) _) _) _
    refine ⟨k.ff, k.sub, k.keep, k.st, k.own, es, ls, a2, bs', h1, h0, h7, q1, hp.nodup_iff.mpr (h4.sublist hs), h5, fun a m => h6 a ?_⟩
    simp only [List.mem_append] at m ⊢
    rcases m with m | m | m
    · exact .inl m
    · exact .inr (.inl (.inr m))
    · rcases List.mem_append.mp (q2.mem_iff.mp m) with m | m
      · exact .inr (.inl (.inl m))
      · exact .inr (.inr (q3.subset m))
theorem Ok.drop (k : Ok K B ps ts T σ C F H) (i : Nat) : Ok K B ps ts T σ (C.set i .any) F H := by
  obtain ⟨es, ls, as, bs, h1, h0, h2, h3, h4, h5, h6⟩ := k.sl
  obtain ⟨bs', q1, q2⟩ := h3.drop i
  exact ⟨k.ff, k.sub, k.keep, k.st, k.own, es, ls, as, bs', h1, h0, h2, q1, h4.sublist (List.Sublist.append_left (List.Sublist.append_left (List.Sublist.append_left q2 _) _) _), h5, fun a m => h6 a ((List.Sublist.append_left (List.Sublist.append_left q2 _) _).subset m)⟩
theorem Ok.wipe1 (k : Ok K B ps ts T σ C F H) (i : Nat) : Ok K B ps ts T (σ.set i none) (C.set i .any) F H := by
  obtain ⟨es, ls, as, bs, h1, h0, h2, h3, h4, h5, h6⟩ := k.sl
  obtain ⟨bs', q1, q2⟩ := h3.wipe i
  exact ⟨k.ff, k.sub, k.keep, k.st, k.own, es, ls, as, bs', h1, h0, h2, q1, h4.sublist (List.Sublist.append_left (List.Sublist.append_left (List.Sublist.append_left q2 _) _) _), h5, fun a m => h6 a ((List.Sublist.append_left (List.Sublist.append_left q2 _) _).subset m)⟩
/-- the slots of other values for the names of which nothing is known -/
theorem Ok.lenG (k : Ok K B ps ts T σ C F H) : C.G.length = σ.length := by
  obtain ⟨es, ls, as, bs, h1, h0, h2, h3, h4⟩ := k.sl
  exact h3.length
theorem Ok.lenL (k : Ok K B ps ts T σ C F H) : C.L.length = ps.2.length := by
  obtain ⟨es, ls, as, bs, h1, h0, h2, h3, h4⟩ := k.sl
  exact h0.length
theorem Ok.lenP (k : Ok K B ps ts T σ C F H) : C.P.length = ps.1.length := by
  obtain ⟨es, ls, as, bs, h1, h0, h2, h3, h4⟩ := k.sl
  exact h1.length
/-- what lies on top becomes one of the things that change -/
theorem Ok.share (k : Ok K B ps (v :: ts) (s :: T) σ C F H) : Ok K B (ps.1, ps.2 ++ [v]) ts T σ ⟨C.P, C.L ++ [s], C.G⟩ F H := by
  obtain ⟨es, ls, as, bs, h1, h0, h2, h3, h4, h5, h6⟩ := k.sl
  cases h2 with
  | cons h2 h7 =>
    rename_i a1 a2
    refine ⟨k.ff, k.sub, k.keep, k.st, k.own, es, ls ++ a1, a2, bs, h1.more, h0.more.snoc h2.more, h7.more, h3.more, ?_, h5, ?_⟩
    · simpa only [List.append_assoc] using h4
    · simpa only [List.append_assoc] using h6
/-- .. and is held by a name -/
theorem Ok.shareAt (k : Ok K B ps (v :: ts) (s :: T) σ C F H) (hi : i < C.G.length) : Ok K B (ps.1, ps.2 ++ [v]) ts T (σ.set i (some v)) ⟨C.P, C.L ++ [s], C.G.set i (.loc C.L.length)⟩ F H := by
  have e : (ps.2 ++ [v])[C.L.length]? = some v := by
    rw [k.lenL]
    simp
  have q := (Ok.share k).pushLoc (j := C.L.length) e
  exact q.store hi
/-- one of the things that change, changed in its place; what lies on top may go into it -/
theorem Ok.locAt {vs : List V} {ss : List Sh} (k : Ok K B ps (vs ++ ts) (ss ++ T) σ C F H) (hl : ss.length = vs.length) (hj : C.L[j]? = some s) :
    ∃ v bs cs, ps.2[j]? = some v ∧ Sep K ps F H s v bs ∧ SepL K ps F H ss vs cs ∧ (∀ a ∈ bs, a ∉ cs) ∧ bs.Nodup ∧ ∀ H' s' bs' r, (∀ a, a ∉ bs → H' a = H a) → (∀ a ∈ bs, H' a ≠ none) → (bs' ++ r).Perm (bs ++ cs) → Sep K ps F H' s' v bs' →
      Ok K B ps ts T σ ⟨C.P, C.L.set j s', C.G⟩ F H' := by
  obtain ⟨es, ls, as, bs, h1, h0, h2, h3, h4, h5, h6⟩ := k.sl
  obtain ⟨ws, ws', cs, cs', e1, rfl, q1, q2⟩ := h2.split
  have el : ws.length = vs.length := by rw [← q1.length, hl]
  obtain ⟨rfl, rfl⟩ := List.append_inj e1 el.symm
  obtain ⟨v, ds, pre, post, g1, g2, rfl, g4⟩ := h0.at hj
  have nd := h4
  simp only [List.nodup_append, List.mem_append] at nd
  have dis : ∀ a ∈ ds, a ∉ es ∧ a ∉ pre ∧ a ∉ post ∧ a ∉ cs ∧ a ∉ cs' ∧ a ∉ bs := fun a m => by
    obtain ⟨-, ⟨⟨-, ⟨nd0, -, n1⟩, n2⟩, -, n3⟩, n4⟩ := nd
    refine ⟨fun z => n4 a z a (.inl (.inr (.inl m))) rfl, fun z => n2 a z a (.inl m) rfl, fun z => n1 a m a z rfl, fun z => n3 a (.inr (.inl m)) a (.inl (.inl z)) rfl, fun z => n3 a (.inr (.inl m)) a (.inl (.inr z)) rfl, fun z => n3 a (.inr (.inl m)) a (.inr z) rfl⟩
  refine ⟨v, ds, cs, g1, g2, q1, fun a m => (dis a m).2.2.2.1, ?_, fun H' s' bs' r k1 k2 k3 k4 => ?_⟩
  · refine h4.sublist ?_
    simp only [List.append_assoc]
    exact ((List.sublist_append_left ds _).trans (List.sublist_append_right ..)).trans (List.sublist_append_right ..)
  have ag : ∀ {xs : List Addr}, (∀ a ∈ xs, F a = none ∧ H a ≠ none) → (∀ a ∈ xs, a ∉ ds) → ∀ a ∈ xs, F a = none ∧ H' a = H a := fun q n a m => ⟨(q a m).1, k1 a (n a m)⟩
  have hF : ∀ a ∈ ds, F a = none := fun a m => (g2.there a m).1
  have hH0 : ∀ a ∈ ds, B.H0 a = none := fun a m => h6 a (by simp [m])
  have perm : (es ++ ((pre ++ (bs' ++ post)) ++ (cs' ++ bs)) ++ r).Perm (es ++ ((pre ++ (ds ++ post)) ++ ((cs ++ cs') ++ bs))) := by
    have p1 : (es ++ ((pre ++ (bs' ++ post)) ++ (cs' ++ bs)) ++ r).Perm (es ++ (pre ++ (post ++ (cs' ++ (bs ++ (bs' ++ r)))))) := by
      simp only [List.append_assoc]
      refine List.Perm.append_left _ (List.Perm.append_left _ ?_)
      refine (List.perm_append_comm_assoc ..).trans (List.Perm.append_left _ ((List.perm_append_comm_assoc ..).trans (List.Perm.append_left _ (List.perm_append_comm_assoc ..))))
    refine p1.trans ?_
    have p2 : (es ++ ((pre ++ (ds ++ post)) ++ ((cs ++ cs') ++ bs))).Perm (es ++ (pre ++ (post ++ (cs' ++ (bs ++ (ds ++ cs)))))) := by
      simp only [List.append_assoc]
      refine List.Perm.append_left _ (List.Perm.append_left _ ?_)
      refine (List.perm_append_comm_assoc ..).trans (List.Perm.append_left _ ?_)
      refine (List.Perm.append_left ds (List.perm_append_comm_assoc ..)).trans ?_
      refine (List.perm_append_comm_assoc ..).trans (List.Perm.append_left _ ?_)
      refine (List.Perm.append_left ds (List.perm_append_comm (l₁ := cs) (l₂ := bs))).trans ?_
      exact List.perm_append_comm_assoc ..
    refine List.Perm.trans ?_ p2.symm
    exact List.Perm.append_left _ (List.Perm.append_left _ (List.Perm.append_left _ (List.Perm.append_left _ (List.Perm.append_left _ k3))))
  refine ⟨k.ff, fun a u e => ?_, fun a u e m => ?_, fun a e => ?_, k.own, es, pre ++ (bs' ++ post), cs', bs, h1.mono (Same.refl _) (ag h1.there fun a m z => (dis a z).1 m), g4 F H' s' bs' (Same.refl _) (fun a m => ?_) k4, q2.mono (Same.refl _) (ag q2.there fun a m z => (dis a z).2.2.2.2.1 m), h3.mono (Same.refl _) (ag h3.there fun a m z => (dis a z).2.2.2.2.2 m), ?_, h5, fun a m => ?_⟩
  · rw [k1 a fun z => by rw [hF a z] at e; cases e]
    exact k.sub a u e
  · rw [k1 a fun z => by rw [hH0 a z] at e; cases e]
    exact k.keep a u e m
  · rw [k1 a fun z => e (hH0 a z)]
    exact k.st a e
  · have z : a ∉ ds := fun z => by
      rcases List.mem_append.mp m with m | m
      · exact (dis a z).2.1 m
      · exact (dis a z).2.2.1 m
    refine ⟨?_, k1 a z⟩
    refine (h0.there a ?_).1
    rcases List.mem_append.mp m with m | m
    · simp [m]
    · simp [m]
  · exact (perm.nodup_iff.mpr h4).sublist (List.sublist_append_left ..)
  · have m2 : a ∈ bs' → a ∈ ds ∨ a ∈ cs := fun z => List.mem_append.mp (k3.mem_iff.mp (List.mem_append_left _ z))
    simp only [List.mem_append] at m
    refine h6 a ?_
    simp only [List.mem_append]
    rcases m with (m | m | m) | m | m
    · exact .inl (.inl m)
    · rcases m2 m with m | m
      · exact .inl (.inr (.inl m))
      · exact .inr (.inl (.inl m))
    · exact .inl (.inr (.inr m))
    · exact .inr (.inl (.inr m))
    · exact .inr (.inr m)
/-- one of the things handed in, changed in its place; what lies on top may go into it -/
theorem Ok.argAt {vs : List V} {ss : List Sh} (k : Ok K B ps (vs ++ ts) (ss ++ T) σ C F H) (hl : ss.length = vs.length) (hj : C.P[j]? = some s) :
    ∃ v bs cs, ps.1[j]? = some v ∧ Sep K ps F H s v bs ∧ SepL K ps F H ss vs cs ∧ (∀ a ∈ bs, a ∉ cs) ∧ bs.Nodup ∧ ∀ H' s' bs' r, (∀ a, a ∉ bs → H' a = H a) → (∀ a ∈ bs, H' a ≠ none) → (bs' ++ r).Perm (bs ++ cs) → Sep K ps F H' s' v bs' →
      Ok K B ps ts T σ ⟨C.P.set j s', C.L, C.G⟩ F H' := by
  obtain ⟨es, ls, as, bs, h1, h0, h2, h3, h4, h5, h6⟩ := k.sl
  obtain ⟨ws, ws', cs, cs', e1, rfl, q1, q2⟩ := h2.split
  have el : ws.length = vs.length := by rw [← q1.length, hl]
  obtain ⟨rfl, rfl⟩ := List.append_inj e1 el.symm
  obtain ⟨v, ds, pre, post, g1, g2, rfl, g4⟩ := h1.at hj
  have nd := h4
  simp only [List.nodup_append, List.mem_append] at nd
  have dis : ∀ a ∈ ds, a ∉ ls ∧ a ∉ pre ∧ a ∉ post ∧ a ∉ cs ∧ a ∉ cs' ∧ a ∉ bs := fun a m => by
    obtain ⟨⟨-, ⟨-, -, n1⟩, n2⟩, -, n3⟩ := nd
    refine ⟨fun z => n3 a (.inr (.inl m)) a (.inl z) rfl, fun z => n2 a z a (.inl m) rfl, fun z => n1 a m a z rfl, fun z => n3 a (.inr (.inl m)) a (.inr (.inl (.inl z))) rfl, fun z => n3 a (.inr (.inl m)) a (.inr (.inl (.inr z))) rfl, fun z => n3 a (.inr (.inl m)) a (.inr (.inr z)) rfl⟩
  refine ⟨v, ds, cs, g1, g2, q1, fun a m => (dis a m).2.2.2.1, ?_, fun H' s' bs' r k1 k2 k3 k4 => ?_⟩
  · refine h4.sublist ?_
    simp only [List.append_assoc]
    exact (List.sublist_append_left ds _).trans (List.sublist_append_right ..)
  have ag : ∀ {xs : List Addr}, (∀ a ∈ xs, F a = none ∧ H a ≠ none) → (∀ a ∈ xs, a ∉ ds) → ∀ a ∈ xs, F a = none ∧ H' a = H a := fun q n a m => ⟨(q a m).1, k1 a (n a m)⟩
  have hF : ∀ a ∈ ds, F a = none := fun a m => (g2.there a m).1
  have hM : ∀ a ∈ ds, B.H0 a = none ∨ a ∈ B.M := fun a m => h5 a (by simp [m])
  have perm : ((pre ++ (bs' ++ post)) ++ (ls ++ (cs' ++ bs)) ++ r).Perm ((pre ++ (ds ++ post)) ++ (ls ++ ((cs ++ cs') ++ bs))) := by
    have p1 : ((pre ++ (bs' ++ post)) ++ (ls ++ (cs' ++ bs)) ++ r).Perm (pre ++ (post ++ (ls ++ (cs' ++ (bs ++ (bs' ++ r)))))) := by
      simp only [List.append_assoc]
      refine List.Perm.append_left _ ?_
      refine (List.perm_append_comm_assoc ..).trans (List.Perm.append_left _ ((List.perm_append_comm_assoc ..).trans (List.Perm.append_left _ ((List.perm_append_comm_assoc ..).trans (List.Perm.append_left _ (List.perm_append_comm_assoc ..))))))
    refine p1.trans ?_
    have p2 : ((pre ++ (ds ++ post)) ++ (ls ++ ((cs ++ cs') ++ bs))).Perm (pre ++ (post ++ (ls ++ (cs' ++ (bs ++ (ds ++ cs)))))) := by
      simp only [List.append_assoc]
      refine List.Perm.append_left _ ?_
      refine (List.perm_append_comm_assoc ..).trans (List.Perm.append_left _ ((List.perm_append_comm_assoc ..).trans (List.Perm.append_left _ ?_)))
      refine (List.Perm.append_left ds (List.perm_append_comm_assoc ..)).trans ?_
      refine (List.perm_append_comm_assoc ..).trans (List.Perm.append_left _ ?_)
      refine (List.Perm.append_left ds (List.perm_append_comm (l₁ := cs) (l₂ := bs))).trans ?_
      exact List.perm_append_comm_assoc ..
    refine List.Perm.trans ?_ p2.symm
    exact List.Perm.append_left _ (List.Perm.append_left _ (List.Perm.append_left _ (List.Perm.append_left _ (List.Perm.append_left _ k3))))
  refine ⟨k.ff, fun a u e => ?_, fun a u e m => ?_, fun a e => ?_, k.own, pre ++ (bs' ++ post), ls, cs', bs, g4 F H' s' bs' (Same.refl _) (fun a m => ?_) k4, h0.mono (Same.refl _) (ag h0.there fun a m z => (dis a z).1 m), q2.mono (Same.refl _) (ag q2.there fun a m z => (dis a z).2.2.2.2.1 m), h3.mono (Same.refl _) (ag h3.there fun a m z => (dis a z).2.2.2.2.2 m), ?_, fun a m => ?_, fun a m => ?_⟩
  · rw [k1 a fun z => by rw [hF a z] at e; cases e]
    exact k.sub a u e
  · rw [k1 a fun z => (hM a z).elim (fun w => by rw [w] at e; cases e) m]
    exact k.keep a u e m
  · by_cases z : a ∈ ds
    · exact k2 a z
    · rw [k1 a z]
      exact k.st a e
  · have z : a ∉ ds := fun z => by
      rcases List.mem_append.mp m with m | m
      · exact (dis a z).2.1 m
      · exact (dis a z).2.2.1 m
    refine ⟨?_, k1 a z⟩
    refine (h1.there a ?_).1
    rcases List.mem_append.mp m with m | m
    · simp [m]
    · simp [m]
  · exact (perm.nodup_iff.mpr h4).sublist (List.sublist_append_left ..)
  · have m2 : a ∈ bs' → a ∈ ds ∨ a ∈ cs := fun z => List.mem_append.mp (k3.mem_iff.mp (List.mem_append_left _ z))
    simp only [List.mem_append] at m
    rcases m with m | m | m
    · exact h5 a (by simp [m])
    · rcases m2 m with m | m
      · exact h5 a (by simp [m])
      · exact .inl (h6 a (by simp [m]))
    · exact h5 a (by simp [m])
  · refine h6 a ?_
    simp only [List.mem_append] at m ⊢
    rcases m with m | m | m
    · exact .inl m
    · exact .inr (.inl (.inr m))
    · exact .inr (.inr m)
end
end Z

/-! ZB: the judgements over the text. -/
namespace Z
open PySem L2
open Enc (enc)

/-! ### what a body stands in -/
structure Sx where
  prog : Program
  w : World
  K : PySem.W.Frag
  mg : Str → Option Value
  base : Heap
  A : Around
  N : List Str
  scope : Scope
  fn : Str → Bool
def Sx.of (X : Cx) : Sx := ⟨X.prog, X.w, X.K, X.mg, X.base, X.A, X.N, X.env.scope, X.fn⟩
structure Fam (S : Sx) (X : Cx) : Prop where
  e : Sx.of X = S
  calm : X.calm = true
  own : PassesOwn (model X.prog X.w) X.A X.env X.xe

def wpE (X : Cx) (e : Expr) : TE := fun σ H Q => ∀ pins s, Inv X pins σ H s → wpAny (model X.prog X.w) X.A (eval e X.env) (EP X pins σ Q) X.xe s
def wpT (X : Cx) (e : Expr) : TT := fun σ H Q => ∀ pins s, Inv X pins σ H s → wpAny (model X.prog X.w) X.A (isTrue e X.env (eval e X.env)) (TP X pins σ Q) X.xe s
def wpW (X : Cx) (e : Expr) : TT := fun σ H Q => ∀ whole pins s, Inv X pins σ H s → wpAny (model X.prog X.w) X.A (isTrue e X.env whole) (TP X pins σ Q) X.xe s
def wpA (X : Cx) (es : List Expr) : TA := fun σ H Q => ∀ pos pins s, Inv X pins σ H s → wpAny (model X.prog X.w) X.A (spliced (backTo pos (starEach es X.env))) (AP X pins σ Q) X.xe s
def wpS (X : Cx) (st : Stmt) : TS := fun D σ H => ∀ pins s, Inv X pins σ H s → wpAny (model X.prog X.w) X.A (exec st X.env) (SP X pins D) X.xe s
def wpSs (X : Cx) (st : List Stmt) : TS := fun D σ H => ∀ pins s, Inv X pins σ H s → wpAny (model X.prog X.w) X.A (execs st X.env) (SP X pins D) X.xe s
def wpG (X : Cx) (tg : Expr) : TG := fun v σ H Q => ∀ pins s u, Inv X pins σ H s → RelV v u → wpAny (model X.prog X.w) X.A (assign tg X.env u) (fun _ s' => ∃ σ' H', Inv X pins σ' H' s' ∧ Q σ' H') X.xe s
def wpI (X : Cx) (tg it : Expr) : TI := fun σ H R => ∀ pins s, Inv X pins σ H s →
  wpAny (model X.prog X.w) X.A (eval it X.env) (fun v s1 => wpAny (model X.prog X.w) X.A (pyIter v) (PIE X pins σ tg R) X.xe s1) X.xe s
def wpTs (X : Cx) (ifs : List Expr) : TT := fun σ H Q => ∀ pins s, Inv X pins σ H s →
    wpAny (model X.prog X.w) X.A (forIn ifs true fun c r => if r = true then do let ok ← isTrue c X.env (eval c X.env); pure (ForInStep.yield ok) else pure (ForInStep.yield r)) (TP X pins σ Q) X.xe s
section
variable {X : Cx} {e it tg : Expr} {es : List Expr} {st : Stmt} {ss : List Stmt}
theorem pe_wp : PE X e (wpE X e) := ⟨fun pins s _ _ _ I h => h pins s I⟩
theorem pt_wp : PT X e (wpT X e) := ⟨fun pins s _ _ _ I h => h pins s I⟩
theorem pw_wp : PW X e (wpW X e) := ⟨fun w pins s _ _ _ I h => h w pins s I⟩
theorem pa_wp : PA X es (wpA X es) := ⟨fun p pins s _ _ _ I h => h p pins s I⟩
theorem ps_wp : PS X st (wpS X st) := ⟨fun pins s _ _ _ I h => h pins s I⟩
theorem pss_wp : PSs X ss (wpSs X ss) := ⟨fun pins s _ _ _ I h => h pins s I⟩
theorem pg_wp : PG X tg (wpG X tg) := ⟨fun pins s _ _ _ u _ I r h => h pins s u I r⟩
theorem pi_wp : PI X tg it (wpI X tg it) := ⟨fun pins s _ _ _ I h => h pins s I⟩
theorem pts_wp : PTs X es (wpTs X es) := ⟨fun pins s _ _ _ I h => h pins s I⟩
theorem to_e {t : TE} (p : PE X e t) {σ H Q} (h : t σ H Q) : wpE X e σ H Q := fun pins s I => p.run pins s σ H Q I h
theorem to_t {t : TT} (p : PT X e t) {σ H Q} (h : t σ H Q) : wpT X e σ H Q := fun pins s I => p.run pins s σ H Q I h
theorem to_w {t : TT} (p : PW X e t) {σ H Q} (h : t σ H Q) : wpW X e σ H Q := fun w pins s I => p.run w pins s σ H Q I h
theorem to_a {t : TA} (p : PA X es t) {σ H Q} (h : t σ H Q) : wpA X es σ H Q := fun po pins s I => p.run po pins s σ H Q I h
theorem to_s {t : TS} (p : PS X st t) {D σ H} (h : t D σ H) : wpS X st D σ H := fun pins s I => p.run pins s σ H D I h
theorem to_ss {t : TS} (p : PSs X ss t) {D σ H} (h : t D σ H) : wpSs X ss D σ H := fun pins s I => p.run pins s σ H D I h
theorem to_g {t : TG} (p : PG X tg t) {v σ H Q} (h : t v σ H Q) : wpG X tg v σ H Q := fun pins s u I r => p.run pins s σ H v u Q I r h
theorem to_i {t : TI} (p : PI X tg it t) {σ H R} (h : t σ H R) : wpI X tg it σ H R := fun pins s I => p.run pins s σ H R I h
theorem to_ts {t : TT} (p : PTs X es t) {σ H Q} (h : t σ H Q) : wpTs X es σ H Q := fun pins s I => p.run pins s σ H Q I h
end

/-! ### what a reading comes to -/
def EJ (K : PySem.W.Frag) (B : Bs) (C : Cn) (te : TE) (s : Sh) (C' : Cn) : Prop :=
  ∀ ps ts T σ F H, Ok K B ps ts T σ C F H → ∀ Q : VK, (∀ v F' H', Ok K B ps (v :: ts) (s :: T) σ C' F' H' → Q v H') → te σ H Q
def TJ (K : PySem.W.Frag) (B : Bs) (C : Cn) (tt : TT) (b : Bool) (C' : Cn) : Prop :=
  ∀ ps ts T σ F H, Ok K B ps ts T σ C F H → ∀ Q : Bool → Hp → Prop, (∀ F' H', Ok K B ps ts T σ C' F' H' → Q b H') → tt σ H Q
def AJ (K : PySem.W.Frag) (B : Bs) (C : Cn) (ta : TA) (ss : List Sh) (C' : Cn) : Prop :=
  ∀ ps ts T σ F H, Ok K B ps ts T σ C F H → ∀ Q : List V → Hp → Prop, (∀ vs F' H', vs.length = ss.length → Ok K B ps (vs ++ ts) (ss ++ T) σ C' F' H' → Q vs H') → ta σ H Q
def GJ (K : PySem.W.Frag) (B : Bs) (C : Cn) (g : TG) (s : Sh) (C' : Cn) : Prop :=
  ∀ ps ts T σ v F H, Ok K B ps (v :: ts) (s :: T) σ C F H → ∀ Q : L2.St → Hp → Prop, (∀ σ' F' H', Ok K B ps ts T σ' C' F' H' → Q σ' H') → g v σ H Q
def R2J (K : PySem.W.Frag) (B : Bs) (C : Cn) (r : R2) (sa sb s : Sh) (C' : Cn) : Prop :=
  ∀ ps ts T σ F H x y, Ok K B ps (y :: x :: ts) (sb :: sa :: T) σ C F H → ∀ Q : VK, (∀ v F' H', Ok K B ps (v :: ts) (s :: T) σ C' F' H' → Q v H') → r x y H Q
def R1J (K : PySem.W.Frag) (B : Bs) (C : Cn) (r : V → Hp → VK → Prop) (sa s : Sh) (C' : Cn) : Prop :=
  ∀ ps ts T σ F H x, Ok K B ps (x :: ts) (sa :: T) σ C F H → ∀ Q : VK, (∀ v F' H', Ok K B ps (v :: ts) (s :: T) σ C' F' H' → Q v H') → r x H Q
def RAJ (K : PySem.W.Frag) (B : Bs) (C : Cn) (r : List V → Hp → VK → Prop) (ss : List Sh) (s : Sh) (C' : Cn) : Prop :=
  ∀ ps ts T σ F H vs, vs.length = ss.length → Ok K B ps (vs ++ ts) (ss ++ T) σ C F H → ∀ Q : VK, (∀ v F' H', Ok K B ps (v :: ts) (s :: T) σ C' F' H' → Q v H') → r vs H Q
structure ZEnds where
  nx : Cn → Prop
  rt : Sh → Cn → Prop
  bk : Cn → Prop := fun _ => False
  ct : Cn → Prop := fun _ => False
structure EndsOk (K : PySem.W.Frag) (B : Bs) (ps : List V × List V) (ts : List V) (T : List Sh) (E : ZEnds) (D : Ends) : Prop where
  nx : ∀ qs C σ F H, E.nx C → Ok K B (ps.1, ps.2 ++ qs) ts T σ C F H → D.nx σ H
  rt : ∀ qs s v C σ F H, E.rt s C → Ok K B (ps.1, ps.2 ++ qs) (v :: ts) (s :: T) σ C F H → D.rt v H
  bk : ∀ qs C σ F H, E.bk C → Ok K B (ps.1, ps.2 ++ qs) ts T σ C F H → D.bk σ H
  ct : ∀ qs C σ F H, E.ct C → Ok K B (ps.1, ps.2 ++ qs) ts T σ C F H → D.ct σ H
def SJ (K : PySem.W.Frag) (B : Bs) (C : Cn) (t : TS) (E : ZEnds) : Prop :=
  ∀ ps ts T σ F H D, Ok K B ps ts T σ C F H → EndsOk K B ps ts T E D → t D σ H

structure ZE (S : Sx) (B : Bs) (C : Cn) (e : Expr) (s : Sh) (C' : Cn) : Prop where
  run : ∀ X, Fam S X → EJ S.K B C (wpE X e) s C'
instance (S : Sx) (B : Bs) (C : Cn) (e : Expr) (s : Sh) (C' : Cn) : CoeFun (ZE S B C e s C') (fun _ => ∀ X, Fam S X → EJ S.K B C (wpE X e) s C') := ⟨ZE.run⟩
structure ZT (S : Sx) (B : Bs) (C : Cn) (e : Expr) (b : Bool) (C' : Cn) : Prop where
  run : ∀ X, Fam S X → TJ S.K B C (wpT X e) b C'
instance (S : Sx) (B : Bs) (C : Cn) (e : Expr) (b : Bool) (C' : Cn) : CoeFun (ZT S B C e b C') (fun _ => ∀ X, Fam S X → TJ S.K B C (wpT X e) b C') := ⟨ZT.run⟩
structure ZW (S : Sx) (B : Bs) (C : Cn) (e : Expr) (b : Bool) (C' : Cn) : Prop where
  run : ∀ X, Fam S X → TJ S.K B C (wpW X e) b C'
instance (S : Sx) (B : Bs) (C : Cn) (e : Expr) (b : Bool) (C' : Cn) : CoeFun (ZW S B C e b C') (fun _ => ∀ X, Fam S X → TJ S.K B C (wpW X e) b C') := ⟨ZW.run⟩
structure ZA (S : Sx) (B : Bs) (C : Cn) (es : List Expr) (ss : List Sh) (C' : Cn) : Prop where
  run : ∀ X, Fam S X → AJ S.K B C (wpA X es) ss C'
instance (S : Sx) (B : Bs) (C : Cn) (es : List Expr) (ss : List Sh) (C' : Cn) : CoeFun (ZA S B C es ss C') (fun _ => ∀ X, Fam S X → AJ S.K B C (wpA X es) ss C') := ⟨ZA.run⟩
structure ZG (S : Sx) (B : Bs) (C : Cn) (tg : Expr) (s : Sh) (C' : Cn) : Prop where
  run : ∀ X, Fam S X → GJ S.K B C (wpG X tg) s C'
instance (S : Sx) (B : Bs) (C : Cn) (tg : Expr) (s : Sh) (C' : Cn) : CoeFun (ZG S B C tg s C') (fun _ => ∀ X, Fam S X → GJ S.K B C (wpG X tg) s C') := ⟨ZG.run⟩
def ZS1 (S : Sx) (B : Bs) (C : Cn) (st : Stmt) (E : ZEnds) : Prop := ∀ X, Fam S X → SJ S.K B C (wpS X st) E
structure ZS (S : Sx) (B : Bs) (C : Cn) (ss : List Stmt) (E : ZEnds) : Prop where
  run : ∀ X, Fam S X → SJ S.K B C (wpSs X ss) E
instance (S : Sx) (B : Bs) (C : Cn) (ss : List Stmt) (E : ZEnds) : CoeFun (ZS S B C ss E) (fun _ => ∀ X, Fam S X → SJ S.K B C (wpSs X ss) E) := ⟨ZS.run⟩

section
variable {K : PySem.W.Frag} {B : Bs} {C C1 C2 C3 : Cn} {ps : List V × List V} {ts : List V} {T : List Sh} {E E' : ZEnds} {D : Ends}
theorem EndsOk.grow {qs : List V} (h : EndsOk K B ps ts T E D) : EndsOk K B (ps.1, ps.2 ++ qs) ts T E D :=
  ⟨fun rs C σ F H e k => h.nx (qs ++ rs) C σ F H e (by simpa only [List.append_assoc] using k), fun rs s v C σ F H e k => h.rt (qs ++ rs) s v C σ F H e (by simpa only [List.append_assoc] using k),
   fun rs C σ F H e k => h.bk (qs ++ rs) C σ F H e (by simpa only [List.append_assoc] using k), fun rs C σ F H e k => h.ct (qs ++ rs) C σ F H e (by simpa only [List.append_assoc] using k)⟩
theorem EndsOk.imp (h : EndsOk K B ps ts T E D) (h1 : ∀ C, E'.nx C → E.nx C) (h2 : ∀ s C, E'.rt s C → E.rt s C) (h3 : ∀ C, E'.bk C → E.bk C) (h4 : ∀ C, E'.ct C → E.ct C) : EndsOk K B ps ts T E' D :=
  ⟨fun qs C σ F H e k => h.nx qs C σ F H (h1 C e) k, fun qs s v C σ F H e k => h.rt qs s v C σ F H (h2 s C e) k, fun qs C σ F H e k => h.bk qs C σ F H (h3 C e) k, fun qs C σ F H e k => h.ct qs C σ F H (h4 C e) k⟩
theorem ej_op {ta tb : TE} {r : R2} {sa sb s : Sh} (ha : EJ K B C ta sa C1) (hb : EJ K B C1 tb sb C2) (hr : R2J K B C2 r sa sb s C3) : EJ K B C (tOp r ta tb) s C3 :=
  fun ps ts T σ F H k Q q => ha ps ts T σ F H k _ fun x F1 H1 k1 => hb ps _ _ σ F1 H1 k1 _ fun y F2 H2 k2 => hr ps ts T σ F2 H2 x y k2 Q q
theorem ej_un {ta : TE} {r : V → Hp → VK → Prop} {sa s : Sh} (ha : EJ K B C ta sa C1) (hr : R1J K B C1 r sa s C2) : EJ K B C (tUn r ta) s C2 :=
  fun ps ts T σ F H k Q q => ha ps ts T σ F H k _ fun x F1 H1 k1 => hr ps ts T σ F1 H1 x k1 Q q
theorem ej_cb {ta : TA} {r : List V → Hp → VK → Prop} {ss : List Sh} {s : Sh} (ha : AJ K B C ta ss C1) (hr : RAJ K B C1 r ss s C2) : EJ K B C (tCB r ta) s C2 :=
  fun ps ts T σ F H k Q q => ha ps ts T σ F H k _ fun vs F1 H1 hl k1 => hr ps ts T σ F1 H1 vs hl k1 Q q
theorem ej_c {v : V} {d : PyData} (h : ∀ F, Rp K F v d) : EJ K B C (tC v) (.dat d) C := fun ps ts T σ F H k Q q => q v F H (k.push (h F))
theorem aj_nil : AJ K B C tNil [] C := fun ps ts T σ F H k Q q => q [] F H rfl k
/-- one from behind others to their head -/
theorem Ok.rot {σ : L2.St} {F H : Hp} {v : V} {s : Sh} {vs : List V} {ss : List Sh} (hl : vs.length = ss.length) (k : Ok K B ps (vs ++ (v :: ts)) (ss ++ (s :: T)) σ C F H) : Ok K B ps (v :: (vs ++ ts)) (s :: (ss ++ T)) σ C F H := by
  obtain ⟨es, ls, as, bs, h1, h0, h2, h3, h4, h5, h6⟩ := k.sl
  obtain ⟨ws, ws', cs, cs', e1, rfl, q1, q2⟩ := h2.split
  obtain ⟨rfl, rfl⟩ := List.append_inj e1 (by rw [hl, q1.length])
  cases q2 with
  | cons q2 q3 =>
    rename_i a1 a2
    have hp : (es ++ (ls ++ ((a1 ++ (cs ++ a2)) ++ bs))).Perm (es ++ (ls ++ ((cs ++ (a1 ++ a2)) ++ bs))) :=
      List.Perm.append_left _ (List.Perm.append_left _ (List.Perm.append_right _ (List.perm_append_comm_assoc ..)))
    refine ⟨k.ff, k.sub, k.keep, k.st, k.own, es, ls, a1 ++ (cs ++ a2), bs, h1, h0, .cons q2 (q1.append q3), h3, hp.nodup_iff.mpr h4, h5, fun a m => h6 a ?_⟩
    have hp2 : (ls ++ ((a1 ++ (cs ++ a2)) ++ bs)).Perm (ls ++ ((cs ++ (a1 ++ a2)) ++ bs)) :=
      List.Perm.append_left _ (List.Perm.append_right _ (List.perm_append_comm_assoc ..))
    exact hp2.mem_iff.mp m
theorem aj_cons {te : TE} {tr : TA} {s : Sh} {ss : List Sh} (h : EJ K B C te s C1) (hr : AJ K B C1 tr ss C2) : AJ K B C (tCons te tr) (s :: ss) C2 := fun ps ts T σ F H k Q q =>
  h ps ts T σ F H k _ fun v F1 H1 k1 => hr ps _ _ σ F1 H1 k1 _ fun vs F2 H2 hl k2 => q (v :: vs) F2 H2 (by simp [hl]) (k2.rot hl)
end

section
variable {S : Sx} {B : Bs} {C C1 C2 C3 : Cn} {e a b c : Expr} {es : List Expr} {s sa sb : Sh} {ss : List Sh} {pos p1 p2 : Pos} {E : ZEnds} {x : Str} {i j : Nat} {d : PyData}
/-! ### expressions -/
theorem ze_int {i j pos} : ZE S B C (.Constant (.int i) j pos) (Sh.of i) C := .mk fun X _ ps ts T σ F H k Q q => to_e pe_int (q _ F H (k.push (.int i)))
theorem ze_bl {b j pos} : ZE S B C (.Constant (.bool b) j pos) (Sh.of b) C := .mk fun X _ ps ts T σ F H k Q q => to_e pe_bl (q _ F H (k.push (.bl b)))
theorem ze_non {j pos} : ZE S B C (.Constant .none j pos) (.dat .none) C := .mk fun X _ ps ts T σ F H k Q q => to_e pe_non (q _ F H (k.push .non))
theorem ze_str {x : Str} {j pos} : ZE S B C (.Constant (.str x) j pos) (Sh.of x) C := .mk fun X _ ps ts T σ F H k Q q => to_e pe_str (q _ F H (k.push (.str x)))
/-- a name's value -/
theorem ze_var (i : Nat) (hG : C.G[i]? = some (.dat d) := by rfl) (hN : S.N[i]? = some x := by rfl) (hv : Vis S.scope x := by first | exact Or.inl rfl | exact Or.inr (Or.inl rfl) | exact Or.inr (Or.inr rfl)) (hd : (x == ("__debug__" : Str)) = false := by decide)
    (hcd : (x == ("__classdict__" : Str)) = false := by decide) : ZE S B C (.Name x pos) (.dat d) C := by
  refine .mk ?_
  rintro X ⟨rfl, _, _⟩ ps ts T σ F H k Q q
  obtain ⟨v, e, r⟩ := k.slotD hG
  exact to_e (pe_var hN hv hd hcd) ⟨v, e, q v F H (k.push r)⟩
theorem ze_varA (i : Nat) (hG : C.G[i]? = some (.arg j) := by rfl) (hN : S.N[i]? = some x := by rfl) (hv : Vis S.scope x := by first | exact Or.inl rfl | exact Or.inr (Or.inl rfl) | exact Or.inr (Or.inr rfl)) (hd : (x == ("__debug__" : Str)) = false := by decide)
    (hcd : (x == ("__classdict__" : Str)) = false := by decide) : ZE S B C (.Name x pos) (.arg j) C := by
  refine .mk ?_
  rintro X ⟨rfl, _, _⟩ ps ts T σ F H k Q q
  obtain ⟨v, e, r⟩ := k.slotA hG
  exact to_e (pe_var hN hv hd hcd) ⟨v, e, q v F H (k.pushArg r)⟩
theorem ze_varL (i : Nat) (hG : C.G[i]? = some (.loc j) := by rfl) (hN : S.N[i]? = some x := by rfl) (hv : Vis S.scope x := by first | exact Or.inl rfl | exact Or.inr (Or.inl rfl) | exact Or.inr (Or.inr rfl)) (hd : (x == ("__debug__" : Str)) = false := by decide)
    (hcd : (x == ("__classdict__" : Str)) = false := by decide) : ZE S B C (.Name x pos) (.loc j) C := by
  refine .mk ?_
  rintro X ⟨rfl, _, _⟩ ps ts T σ F H k Q q
  obtain ⟨v, e, r⟩ := k.slotL hG
  exact to_e (pe_var hN hv hd hcd) ⟨v, e, q v F H (k.pushLoc r)⟩
theorem za_nil : ZA S B C [] [] C := .mk fun X _ ps ts T σ F H k Q q => to_a pa_nil (q [] F H rfl k)
theorem za_cons (h : ZE S B C e s C1) (hr : ZA S B C1 es ss C2) (hs : ∀ env, starEach (e :: es) env = (false, eval e env) :: starEach es env := by intro _; rfl) : ZA S B C (e :: es) (s :: ss) C2 := .mk fun X hX ps ts T σ F H k Q q =>
  to_a (pa_cons pe_wp pa_wp (hs X.env)) (aj_cons (h X hX) (hr X hX) ps ts T σ F H k Q q)
theorem ze_op {op : Operator} {r : R2} (ho : ∀ X, Fam S X → OpR X (binaryOp op) r) (ha : ZE S B C a sa C1) (hb : ZE S B C1 b sb C2) (hr : R2J S.K B C2 r sa sb s C3) : ZE S B C (.BinOp a op b pos) s C3 := .mk fun X hX ps ts T σ F H k Q q =>
  to_e (pe_op (ho X hX) pe_wp pe_wp) (ej_op (ha X hX) (hb X hX) hr ps ts T σ F H k Q q)
theorem ze_cmp {op : CmpOp} {r : R2} (ho : ∀ X, Fam S X → OpR X (compareOp op) r) (ha : ZE S B C a sa C1) (hb : ZE S B C1 b sb C2) (hr : R2J S.K B C2 r sa sb s C3) (hm : behindInMarks op b = false := by rfl) : ZE S B C (.Compare a [op] [b] pos) s C3 := .mk fun X hX ps ts T σ F H k Q q =>
  to_e (pe_cmpR (ho X hX) pe_wp pe_wp hm) (ej_op (ha X hX) (hb X hX) hr ps ts T σ F H k Q q)
theorem zt_cmp {op : CmpOp} {r : R2} {t : Bool} (ho : ∀ X, Fam S X → OpR X (compareOp op) r) (ha : ZE S B C a sa C1) (hb : ZE S B C1 b sb C2) (hr : R2J S.K B C2 r sa sb (Sh.of t) C3) (hm : behindInMarks op b = false := by rfl) : ZT S B C (.Compare a [op] [b] pos) t C3 := .mk fun X hX ps ts T σ F H k Q q =>
  to_t (pt_cmpR (ho X hX) pe_wp pe_wp hm) (ej_op (ha X hX) (hb X hX) hr ps ts T σ F H k _ fun v F' H' k' => by
    have h := k'.top
    cases h
    exact ⟨t, rfl, q F' H' k'.pop⟩)
theorem ze_un {op : UnaryOp} {r : V → Hp → VK → Prop} (ho : ∀ X, Fam S X → UnR X (unaryOp op) r) (ha : ZE S B C a sa C1) (hr : R1J S.K B C1 r sa s C2) : ZE S B C (.UnaryOp op a pos) s C2 := .mk fun X hX ps ts T σ F H k Q q =>
  to_e (pe_un (ho X hX) pe_wp) (ej_un (ha X hX) hr ps ts T σ F H k Q q)
theorem ze_ix {r : R2} (ho : ∀ X, Fam S X → IxR X r) (ha : ZE S B C a sa C1) (hb : ZE S B C1 b sb C2) (hr : R2J S.K B C2 r sa sb s C3) (hs : PlainIx b := by intro _ _; rfl) : ZE S B C (.Subscript a b pos) s C3 := .mk fun X hX ps ts T σ F H k Q q =>
  to_e (pe_ix (ho X hX) pe_wp pe_wp hs) (ej_op (ha X hX) (hb X hX) hr ps ts T σ F H k Q q)
theorem ze_tup {x1} (h : ZA S B C es ss C1) (hd : ∃ ds, ss = List.map Sh.dat ds ∧ d = .tuple ds) (hl : ss.length ≤ 1000 := by exact Nat.le_of_ble_eq_true rfl) : ZE S B C (.Tuple es x1 pos) (.dat d) C1 := by
  obtain ⟨ds, rfl, rfl⟩ := hd
  exact .mk fun X hX ps ts T σ F H k Q q => to_e (pe_tup pa_wp) (h X hX ps ts T σ F H k _ fun vs F1 H1 l k1 => by
    have hz : vs.length ≤ sizeLine := by rw [l]; exact Nat.le_trans hl (by decide)
    refine ⟨hz, fun p hp => ?_⟩
    obtain ⟨es, ls, as, bs, h1, h0, h2, h3, h4⟩ := id k1.sl
    obtain ⟨ws, ws', cs, cs', e1, rfl, q1, q2⟩ := h2.split
    obtain ⟨rfl, rfl⟩ := List.append_inj e1 (by rw [l, q1.length])
    obtain ⟨r, _⟩ := q1.data
    have k2 := k1.laid (o := .tup vs) hp
    have sF : Same F1 (upd F1 p (.tup vs)) := same_new (k1.fresh hp).1
    have pops : ∀ (us : List V) (ss : List Sh) (F : Hp) (H : Hp), us.length = ss.length → Ok S.K B ps (us ++ ts) (ss ++ T) σ C1 F H → Ok S.K B ps ts T σ C1 F H := fun us => by
      induction us with
      | nil => intro ss F H l k; cases ss with | nil => exact k | cons _ _ => cases l
      | cons u us ih => intro ss F H l k; cases ss with | nil => cases l | cons s ss => exact ih ss F H (by simpa using l) k.pop
    exact q _ _ _ ((pops _ _ _ _ l k2).push (.tup (.inl (.inl upd_same)) (r.mono sF))))
end
end Z

/-! ZC: statements, functions, calls. -/
namespace Z
open PySem L2
open Enc (enc)

mutual
/-- no thing of a frame's is named -/
def Sh.free : Sh → Bool
  | .loc _ => false
  | .arg _ => false
  | .ls xs => Sh.freeL xs
  | .tp xs => Sh.freeL xs
  | .dk _ xs => Sh.freeL xs
  | .ins _ _ xs => Sh.freeL xs
  | _ => true
def Sh.freeL : List Sh → Bool
  | [] => true
  | x :: xs => x.free && Sh.freeL xs
end
mutual
theorem Sh.free_bel : ∀ {s : Sh} {n : Nat}, s.free = true → s.bel n = true
  | .any, _, _ => rfl
  | .dat _, _, _ => rfl
  | .arg _, _, h => nomatch h
  | .loc _, _, h => nomatch h
  | .ls xs, _, h => Sh.freeL_bel (ss := xs) h
  | .tp xs, _, h => Sh.freeL_bel (ss := xs) h
  | .dk _ xs, _, h => Sh.freeL_bel (ss := xs) h
  | .ins _ _ xs, _, h => Sh.freeL_bel (ss := xs) h
theorem Sh.freeL_bel : ∀ {ss : List Sh} {n : Nat}, Sh.freeL ss = true → Sh.belL n ss = true
  | [], _, _ => rfl
  | s :: ss, n, h => by
    have h' : s.free = true ∧ Sh.freeL ss = true := by simpa [Sh.freeL] using h
    show (s.bel n && Sh.belL n ss) = true
    rw [Sh.free_bel h'.1, Sh.freeL_bel h'.2]
    rfl
end
section
variable {K : PySem.W.Frag} {ps qs : List V × List V} {F H : Hp}
mutual
theorem Sep.re : ∀ {s : Sh} {v : V} {as : List Addr}, s.free = true → Sep K ps F H s v as → Sep K qs F H s v as
  | .any, _, _, _, h => by cases h; exact .any
  | .dat _, _, _, _, h => by cases h with | dat h => exact .dat h
  | .arg _, _, _, b, _ => nomatch b
  | .loc _, _, _, b, _ => nomatch b
  | .ls xs, _, _, b, h => by cases h with | ls h1 h2 q => exact .ls h1 h2 (SepL.re b q)
  | .tp xs, _, _, b, h => by cases h with | tp h1 q => exact .tp h1 (SepL.re b q)
  | .dk _ xs, _, _, b, h => by cases h with | dk h1 h2 h3 q => exact .dk h1 h2 h3 (SepL.re b q)
  | .ins _ _ xs, _, _, b, h => by cases h with | ins h1 h2 h3 h4 h5 q => exact .ins h1 h2 h3 h4 h5 (SepL.re b q)
theorem SepL.re : ∀ {ss : List Sh} {vs : List V} {as : List Addr}, Sh.freeL ss = true → SepL K ps F H ss vs as → SepL K qs F H ss vs as
  | [], _, _, _, h => by cases h; exact .nil
  | s :: ss, _, _, b, h => by
    have b' : s.free = true ∧ Sh.freeL ss = true := by simpa [Sh.freeL] using b
    cases h with | cons h q => exact .cons (Sep.re b'.1 h) (SepL.re b'.2 q)
end
end
theorem freeL_dat : ∀ ds : List PyData, Sh.freeL (ds.map Sh.dat) = true
  | [] => rfl
  | _ :: ds => by
    show (true && Sh.freeL (ds.map Sh.dat)) = true
    rw [freeL_dat ds]; rfl

/-! ### promises -/
/-- of the things handed in: what comes, and what they are then -/
abbrev Spec := List Sh → Sh → List Sh → Prop
def spZ (K : PySem.W.Frag) (sp : Spec) : Sp := fun vs H Q _ => ∃ F ss as r ss', Same F H ∧ SepL K (vs, []) F H ss vs as ∧ as.Nodup ∧ sp ss r ss' ∧
  ∀ v F' H' bs cs, Same F F' → Same F' H' → (∀ a o, H a = some o → a ∉ as → H' a = some o) → (∀ a, H a ≠ none → H' a ≠ none) → (∀ a, F a = none → H a ≠ none → F' a = none) →
    SepL K (vs, []) F' H' ss' vs cs → Sep K (vs, []) F' H' r v bs → (cs ++ bs).Nodup → (∀ a ∈ cs, H a = none ∨ a ∈ as) → (∀ a ∈ bs, H a = none) → Q v H'
def entryG : Nat → List Sh → List Sh
  | _, [] => []
  | i, .dat d :: r => .dat d :: entryG (i + 1) r
  | i, .any :: r => .any :: entryG (i + 1) r
  | i, _ :: r => .arg i :: entryG (i + 1) r
abbrev Cn.entry (N : List Str) (ss : List Sh) : Cn := ⟨ss, [], entryG 0 ss ++ List.replicate (N.length - ss.length) .any⟩
abbrev Sx.body (P : Program) (w : World) (K : PySem.W.Frag) (mg : Str → Option Value) (base : Heap) (A : Around) (N : List Str) (st : Stmt) : Sx := ⟨P, w, K, mg, base, A, N, defScope st, fun _ => true⟩
/-- what a def's body has to come to -/
abbrev Ret (r : Sh) (ss' : List Sh) : ZEnds := { nx := fun C => r = .dat .none ∧ C.P = ss', rt := fun s C => s = r ∧ C.P = ss' }
section
variable {P : Program} {w : World} {K : PySem.W.Frag} {mg : Str → Option Value} {base : Heap}
theorem entry_slots {F H : Hp} {us : List V} : ∀ {ss : List Sh} {vs : List V} {as : List Addr} {i : Nat}, SepL K (us, []) F H ss vs as → (∀ j v, vs[j]? = some v → us[i + j]? = some v) → Slots K (us, []) F H (entryG i ss) (vs.map some) []
  | [], _, _, _, .nil, _ => .nil
  | s :: ss, _, _, i, .cons (v := v) (vs := vs) h q, k => by
    have k' : ∀ j v, vs[j]? = some v → us[i + 1 + j]? = some v := fun j v e => by
      have := k (j + 1) v (by simpa using e)
      rwa [show i + (j + 1) = i + 1 + j by omega] at this
    have ih := entry_slots (i := i + 1) q k'
    have kv : us[i]? = some v := k 0 v rfl
    cases h with
    | any => exact .no ih
    | dat h => exact .cons (as := []) (.dat h) ih
    | arg h => exact .cons (as := []) (.arg kv) ih
    | loc h => exact .cons (as := []) (.arg kv) ih
    | ls => exact .cons (as := []) (.arg kv) ih
    | tp => exact .cons (as := []) (.arg kv) ih
    | dk => exact .cons (as := []) (.arg kv) ih
    | ins => exact .cons (as := []) (.arg kv) ih
theorem Slots.pad {ps : List V × List V} {F H : Hp} : ∀ {ss : List Sh} {os : List (Option V)} {as : List Addr} (n : Nat), Slots K ps F H ss os as → Slots K ps F H (ss ++ List.replicate n .any) (os ++ List.replicate n none) as
  | _, _, _, 0, .nil => .nil
  | _, _, _, n + 1, .nil => .no (Slots.pad n .nil)
  | _, _, _, n, .no q => .no (q.pad n)
  | _, _, _, n, .cons h q => .cons h (q.pad n)
/-- THE RULE for a def that lets nothing out -/
theorem fn_z {x qual : Str} {st : Stmt} {f : Addr} {fd : FuncData} {N ps : List Str} {k : Nat} {sp : Spec} (Fn : Fun K x qual st f fd) (Sc : FnScope N ps (defScope st)) (len : ∀ ss r ss', sp ss r ss' → ss.length = ps.length)
    (fre : ∀ ss r ss', sp ss r ss' → r.bel 0 = true ∧ Sh.belL 0 ss' = true)
    (body : ∀ (A : Around) (B : Bs) (ss : List Sh) (r : Sh) (ss' : List Sh), Room k A → sp ss r ss' → ZS (Sx.body P w K mg base A N st) B (Cn.entry N ss) (defBody st) (Ret r ss')) :
    FnOk P w K mg base CX0 (k + 1) f fd ps (spZ K sp) := by
  refine Fn.ok Sc (fun vs H Q E h => ?_) (fun cdv A outer s H vs Q E hr h => ?_)
  · obtain ⟨F, ss, as, r, ss', _, q, _, h, _⟩ := h
    rw [← q.length, len _ _ _ h]
  · obtain ⟨F, ss, as, r, ss', s1, q, nd, h, go⟩ := h
    obtain ⟨fr, fs⟩ := fre _ _ _ h
    refine ⟨_, pss_wp, body _ ⟨F, H, as⟩ ss r ss' hr h _ ⟨rfl, rfl, PassesOwn.never⟩ (vs, []) [] [] _ F H _ ⟨Same.refl _, s1, fun _ _ e _ => e, fun _ e => e, fun _ e _ => e, as, [], [], [], q, .nil, .nil, ?_, by simpa using nd, fun a m => .inr m, fun a m => nomatch m⟩ ⟨fun qs C σ F' H' e k => ?_, fun qs s' v C σ F' H' e k => ?_, fun _ _ _ _ _ e => e.elim, fun _ _ _ _ _ e => e.elim⟩⟩
    · show Slots K (vs, []) F H (entryG 0 ss ++ List.replicate (N.length - ss.length) Sh.any) (vs.map some ++ List.replicate (N.length - vs.length) none) []
      rw [q.length]
      exact (entry_slots q fun j v e => by simpa using e).pad _
    · obtain ⟨rfl, rfl⟩ := e
      obtain ⟨es, ls, as', bs, h1, h0, h2, h3, h4, h5, h6⟩ := k.sl
      refine go .non F' H' [] es k.ff k.sub k.keep k.st k.own (h1.less fs) (.dat .non) ?_ h5 (fun a m => nomatch m)
      rw [List.append_nil]
      exact h4.sublist (List.sublist_append_left ..)
    · obtain ⟨rfl, rfl⟩ := e
      obtain ⟨es, ls, as', bs, h1, h0, h2, h3, h4, h5, h6⟩ := k.sl
      cases h2 with
      | cons h2 h7 =>
        rename_i a1 a2
        refine go v F' H' a1 es k.ff k.sub k.keep k.st k.own (h1.less fs) (h2.less fr) ?_ h5 (fun a m => h6 a (by simp [m]))
        refine h4.sublist (List.Sublist.append_left ?_ _)
        refine List.Sublist.trans ?_ (List.sublist_append_right ..)
        rw [List.append_assoc]
        exact List.sublist_append_left ..
end

/-! ### typed promises -/
section
variable {α β γ δ ε ζ : Type} [Enc α] [Enc β] [Enc γ] [Enc δ] [Enc ε] [Enc ζ]
def pure1 (pre : α → Prop) (f : α → ζ) : Spec := fun ss r ss' => ∃ a, ss = [Sh.of a] ∧ pre a ∧ r = Sh.of (f a) ∧ ss' = [Sh.of a]
def pure2 (pre : α → β → Prop) (f : α → β → ζ) : Spec := fun ss r ss' => ∃ a b, ss = [Sh.of a, Sh.of b] ∧ pre a b ∧ r = Sh.of (f a b) ∧ ss' = [Sh.of a, Sh.of b]
def pure3 (pre : α → β → γ → Prop) (f : α → β → γ → ζ) : Spec := fun ss r ss' => ∃ a b c, ss = [Sh.of a, Sh.of b, Sh.of c] ∧ pre a b c ∧ r = Sh.of (f a b c) ∧ ss' = [Sh.of a, Sh.of b, Sh.of c]
def pure4 (pre : α → β → γ → δ → Prop) (f : α → β → γ → δ → ζ) : Spec := fun ss r ss' => ∃ a b c d, ss = [Sh.of a, Sh.of b, Sh.of c, Sh.of d] ∧ pre a b c d ∧ r = Sh.of (f a b c d) ∧ ss' = [Sh.of a, Sh.of b, Sh.of c, Sh.of d]
end

/-! ### the world's step behind a call -/
section
variable {K : PySem.W.Frag} {B : Bs} {C : Cn} {ps : List V × List V} {ts : List V} {T : List Sh} {σ : L2.St} {F H F' H' : Hp}
theorem Ok.pops {us : List V} {ss : List Sh} (l : us.length = ss.length) (k : Ok K B ps (us ++ ts) (ss ++ T) σ C F H) : Ok K B ps ts T σ C F H := by
  induction us generalizing ss with
  | nil => cases ss with | nil => exact k | cons _ _ => cases l
  | cons u us ih => cases ss with | nil => cases l | cons s ss => exact ih (by simpa using l) k.pop
theorem Ok.split {us : List V} {ss : List Sh} (l : us.length = ss.length) (k : Ok K B ps (us ++ ts) (ss ++ T) σ C F H) : ∃ cs, SepL K ps F H ss us cs := by
  obtain ⟨es, ls, as, bs, h1, h0, h2, h3, h4⟩ := k.sl
  obtain ⟨ws, ws', cs, cs', e1, rfl, q1, q2⟩ := h2.split
  obtain ⟨rfl, rfl⟩ := List.append_inj e1 (by rw [l, q1.length])
  exact ⟨cs, q1⟩
theorem Ok.splitD {us : List V} {ds : List PyData} (l : us.length = (ds.map Sh.dat).length) (k : Ok K B ps (us ++ ts) (ds.map Sh.dat ++ T) σ C F H) : RpL K F us ds :=
  let ⟨_, q⟩ := k.split l
  q.data.1
/-- all that was owned is as it was -/
theorem Ok.step (k : Ok K B ps ts T σ C F H) (s1 : Same F F') (s2 : Same F' H') (kp : Same H H') (ow : ∀ a, F a = none → H a ≠ none → F' a = none) : Ok K B ps ts T σ C F' H' := by
  obtain ⟨es, ls, as, bs, h1, h0, h2, h3, h4, h5, h6⟩ := k.sl
  have eq : ∀ {xs : List Addr}, (∀ a ∈ xs, F a = none ∧ H a ≠ none) → ∀ a ∈ xs, F' a = none ∧ H' a = H a := fun q a m => by
    refine ⟨ow a (q a m).1 (q a m).2, ?_⟩
    cases e : H a with
    | none => exact absurd e (q a m).2
    | some o => exact kp a o e
  have th : ∀ a, H a ≠ none → H' a ≠ none := fun a n => by
    cases e : H a with
    | none => exact absurd e n
    | some o => rw [kp a o e]; exact nofun
  exact ⟨k.ff.trans s1, s2, fun a o e m => kp a o (k.keep a o e m), fun a n => th a (k.st a n), fun a e1 e2 => ow a (k.own a e1 e2) (k.st a e2), es, ls, as, bs, h1.mono s1 (eq h1.there), h0.mono s1 (eq h0.there), h2.mono s1 (eq h2.there), h3.mono s1 (eq h3.there), h4, h5, h6⟩
/-- something new is laid on top -/
theorem Ok.pushS {s : Sh} {v : V} {cs : List Addr} (k : Ok K B ps ts T σ C F H) (h : Sep K ps F H s v cs) (nd : cs.Nodup) (nw : ∀ a ∈ cs, B.H0 a = none)
    (dis : ∀ es ls as bs, SepL K ps F H C.P ps.1 es → SepL K ps F H C.L ps.2 ls → SepL K ps F H T ts as → Slots K ps F H C.G σ bs → ∀ a ∈ cs, a ∉ es ∧ a ∉ ls ∧ a ∉ as ∧ a ∉ bs) : Ok K B ps (v :: ts) (s :: T) σ C F H := by
  obtain ⟨es, ls, as, bs, h1, h0, h2, h3, h4, h5, h6⟩ := k.sl
  have d := dis es ls as bs h1 h0 h2 h3
  refine ⟨k.ff, k.sub, k.keep, k.st, k.own, es, ls, cs ++ as, bs, h1, h0, .cons h h2, h3, ?_, h5, fun a m => ?_⟩
  · have hp : (es ++ (ls ++ (cs ++ as ++ bs))).Perm (cs ++ (es ++ (ls ++ (as ++ bs)))) := by
      rw [List.append_assoc cs as bs]
      exact (List.Perm.append_left _ (List.perm_append_comm_assoc ..)).trans (List.perm_append_comm_assoc ..)
    refine hp.nodup_iff.mpr (List.nodup_append.mpr ⟨nd, h4, fun a m b m' e => ?_⟩)
    subst e
    obtain ⟨d1, d2, d3, d4⟩ := d a m
    simp only [List.mem_append] at m'
    rcases m' with m' | m' | m' | m'
    · exact d1 m'
    · exact d2 m'
    · exact d3 m'
    · exact d4 m'
  · simp only [List.mem_append] at m
    rcases m with m | (m | m) | m
    · exact h6 a (by simp [m])
    · exact nw a m
    · exact h6 a (by simp [m])
    · exact h6 a (by simp [m])
/-- behind a call that changes nothing that was there: its answer on top -/
theorem Ok.after {s : Sh} {v : V} {cs : List Addr} (k : Ok K B ps ts T σ C F H) (s1 : Same F F') (s2 : Same F' H') (kp : Same H H') (ow : ∀ a, F a = none → H a ≠ none → F' a = none)
    (h : Sep K ps F' H' s v cs) (nd : cs.Nodup) (nw : ∀ a ∈ cs, H a = none) : Ok K B ps (v :: ts) (s :: T) σ C F' H' := by
  have old : ∀ a ∈ cs, B.H0 a = none := fun a m => (k.fresh (nw a m)).2
  obtain ⟨es, ls, as, bs, h1, h0, h2, h3, h4, h5, h6⟩ := k.sl
  have k' := k.step s1 s2 kp ow
  have eq : ∀ {xs : List Addr}, (∀ a ∈ xs, F a = none ∧ H a ≠ none) → ∀ a ∈ xs, F' a = none ∧ H' a = H a := fun q a m => by
    refine ⟨ow a (q a m).1 (q a m).2, ?_⟩
    cases e : H a with
    | none => exact absurd e (q a m).2
    | some o => exact kp a o e
  refine ⟨k'.ff, k'.sub, k'.keep, k'.st, k'.own, es, ls, cs ++ as, bs, h1.mono s1 (eq h1.there), h0.mono s1 (eq h0.there), .cons h (h2.mono s1 (eq h2.there)), h3.mono s1 (eq h3.there), ?_, h5, fun a m => ?_⟩
  · have hp : (es ++ (ls ++ (cs ++ as ++ bs))).Perm (cs ++ (es ++ (ls ++ (as ++ bs)))) := by
      rw [List.append_assoc cs as bs]
      exact (List.Perm.append_left _ (List.perm_append_comm_assoc ..)).trans (List.perm_append_comm_assoc ..)
    refine hp.nodup_iff.mpr (List.nodup_append.mpr ⟨nd, h4, fun a m b m' e => ?_⟩)
    subst e
    have n := nw a m
    simp only [List.mem_append] at m'
    rcases m' with m' | m' | m' | m'
    · exact (h1.there a m').2 n
    · exact (h0.there a m').2 n
    · exact (h2.there a m').2 n
    · exact (h3.there a m').2 n
  · simp only [List.mem_append] at m
    rcases m with m | (m | m) | m
    · exact h6 a (by simp [m])
    · exact old a m
    · exact h6 a (by simp [m])
    · exact h6 a (by simp [m])
end

section
variable {S : Sx} {B : Bs} {C C1 C2 C3 : Cn} {e a b c : Expr} {es : List Expr} {s sa sb r : Sh} {ss : List Sh} {pos p p1 p2 : Pos} {E : ZEnds} {x : Str} {i j : Nat} {d : PyData} {ds : List PyData}
/-- f(..) of data, nothing that was there being changed -/
theorem ze_call {k : Nat} {f : Addr} {fd : FuncData} {ps' : List Str} {sp : Spec} (G : FnOk S.prog S.w S.K S.mg S.base CX0 k f fd ps' (spZ S.K sp)) (hr : Room k S.A) (hm : S.mg x = some (.ref f)) (hk : PySem.W.keepIn S.K (.ref f) = true) (hb : Binds S.K fd ps' [])
    (ha : ZA S B C (e :: es) ss C1) (hd : ∃ ds : List PyData, ss = ds.map Sh.dat) (hs : sp ss r ss) (hf : r.free = true := by rfl) (hg : S.scope.names.lookup x = some .globalImplicit := by rfl)
    (hdb : (x == ("__debug__" : Str)) = false := by decide) (he : ∀ env, starEach (e :: es) env = (false, eval e env) :: starEach es env := by intro _; rfl) (hpl : ∀ env, (backTo pos (starEach es env)).any (·.1) = false := by intro _; rfl) :
    ZE S B C (.Call (.Name x p) (e :: es) [] pos) r C1 := by
  obtain ⟨ds, rfl⟩ := hd
  refine .mk ?_
  rintro X hX ps ts T σ F H k0 Q q
  have ha' := ha X hX
  obtain ⟨rfl, _, _⟩ := hX
  refine to_e (pe_call (dvs := []) (E := E0) G hr hg hm hk hb .nil pass0 pa_wp hdb (he X.env) (hpl X.env)) (ha' ps ts T σ F H k0 _ fun vs F1 H1 hl k1 => ?_)
  have rd := k1.splitD hl
  rw [List.append_nil]
  refine ⟨F1, ds.map Sh.dat, [], r, ds.map Sh.dat, k1.sub, SepL.ofData rd, .nil, hs, fun v F' H' bs cs s1 s2 kp th ow q1 q2 nd n1 n2 => ?_⟩
  exact q v F' H' ((k1.pops hl).after s1 s2 (fun a o e => kp a o e (fun z => nomatch z)) ow (q2.re hf) (nd.sublist (List.sublist_append_right ..)) n2)

/-! ### statements -/
theorem zs_nil (h : E.nx C) : ZS S B C [] E := .mk fun X _ ps ts T σ F H D k q => to_ss pss_nil (q.nx [] C σ F H h (by simpa using k))
theorem zs_cons {st : Stmt} {rest : List Stmt} (h : ZS1 S B C st { E with nx := fun C' => ZS S B C' rest E }) : ZS S B C (st :: rest) E := .mk fun X hX ps ts T σ F H D k q =>
  to_ss (pss_cons ps_wp pss_wp) (h X hX ps ts T σ F H _ k ⟨fun qs C' σ' F' H' e k' => e X hX _ ts T σ' F' H' D k' q.grow, q.rt, q.bk, q.ct⟩)
theorem zs_ret {rest : List Stmt} (h : ZE S B C e s C1) (hr : E.rt s C1) : ZS S B C (.Return (some e) pos :: rest) E := zs_cons fun X hX ps ts T σ F H D k q =>
  to_s (ps_ret pe_wp) (h X hX ps ts T σ F H k _ fun v F' H' k' => q.rt [] s v C1 σ F' H' hr (by simpa using k'))
theorem zs_retN {rest : List Stmt} (hr : E.rt (.dat .none) C) : ZS S B C (.Return none pos :: rest) E := zs_cons fun X hX ps ts T σ F H D k q =>
  to_s ps_retN (q.rt [] _ .non C σ F H hr (by simpa using k.push .non))
theorem zs_if {rest a b : List Stmt} {t : Bool} (hc : ZT S B C c t C1) (ha : t = true → ZS S B C1 a { E with nx := fun C' => ZS S B C' rest E }) (hb : t = false → ZS S B C1 b { E with nx := fun C' => ZS S B C' rest E }) :
    ZS S B C (.If c a b pos :: rest) E := zs_cons fun X hX ps ts T σ F H D k q =>
  to_s (ps_if pt_wp pss_wp pss_wp) (hc X hX ps ts T σ F H k _ fun F' H' k' => by
    cases t with
    | true => rw [if_pos rfl]; exact ha rfl X hX ps ts T σ F' H' D k' q
    | false => rw [if_neg nofun]; exact hb rfl X hX ps ts T σ F' H' D k' q)
/-- x = e, a value that stays -/
theorem zs_set {rest : List Stmt} {p' : Pos} (i : Nat) (he : ZE S B C e s C1) (hk : ZS S B (C1.set i s) rest E) (hl : i < C1.G.length := by exact Nat.le_of_ble_eq_true rfl) (hN : S.N[i]? = some x := by rfl) (hx : Loc S.scope x := by first | exact Or.inl rfl | exact Or.inr rfl) (hn : S.N.Nodup := by decide)
    (hs : ∀ env, swapsWith e (some (.Name x p')) pos.line env = pure false := by intro _; rfl) (hf : S.fn x = true ∨ S.scope.names.lookup x = some .local := by first | exact .inl rfl | exact .inr rfl) :
    ZS S B C (.Assign [.Name x p'] e pos :: rest) E := zs_cons (by
  rintro X hX ps ts T σ F H D k q
  have he' := he X hX
  have hX' := hX
  obtain ⟨rfl, _, _⟩ := hX
  refine to_s (ps_set hn hN hx pe_wp (hs X.env) hf) (he' ps ts T σ F H k _ fun v F' H' k' => ?_)
  exact q.nx [] _ _ F' H' hk (by simpa using k'.store hl))
/-- x = e, something new that changes later -/
theorem zs_setL {rest : List Stmt} {p' : Pos} (i : Nat) (he : ZE S B C e s C1) (hk : ZS S B ⟨C1.P, C1.L ++ [s], C1.G.set i (.loc C1.L.length)⟩ rest E) (hl : i < C1.G.length := by exact Nat.le_of_ble_eq_true rfl) (hN : S.N[i]? = some x := by rfl) (hx : Loc S.scope x := by first | exact Or.inl rfl | exact Or.inr rfl) (hn : S.N.Nodup := by decide)
    (hs : ∀ env, swapsWith e (some (.Name x p')) pos.line env = pure false := by intro _; rfl) (hf : S.fn x = true ∨ S.scope.names.lookup x = some .local := by first | exact .inl rfl | exact .inr rfl) :
    ZS S B C (.Assign [.Name x p'] e pos :: rest) E := zs_cons (by
  rintro X hX ps ts T σ F H D k q
  have he' := he X hX
  obtain ⟨rfl, _, _⟩ := hX
  refine to_s (ps_set hn hN hx pe_wp (hs X.env) hf) (he' ps ts T σ F H k _ fun v F' H' k' => ?_)
  exact q.nx [v] _ _ F' H' hk (k'.shareAt hl))
theorem zs_expr {rest : List Stmt} (he : ZE S B C e s C1) (hk : ZS S B C1 rest E) (hs : ∀ env, swapsWith e none pos.line env = pure false := by intro _; rfl) : ZS S B C (.Expr e pos :: rest) E := zs_cons fun X hX ps ts T σ F H D k q =>
  to_s (ps_expr pe_wp (hs X.env)) (he X hX ps ts T σ F H k _ fun v F' H' k' => q.nx [] _ _ F' H' hk (by simpa using k'.pop))
/-- a context of which less is asked -/
theorem Ok.to {K : PySem.W.Frag} {ps : List V × List V} {ts : List V} {T : List Sh} {σ : L2.St} {F H : Hp} {G' : List Sh} (k : Ok K B ps ts T σ C F H) (l : G'.length = C.G.length) (h : ∀ (i : Nat) (s : Sh), G'[i]? = some s → s = Sh.any ∨ C.G[i]? = some s) : Ok K B ps ts T σ ⟨C.P, C.L, G'⟩ F H := by
  obtain ⟨es, ls, as, bs, h1, h0, h2, h3, h4, h5, h6⟩ := k.sl
  have go : ∀ {G G' : List Sh} {os : List (Option V)} {bs : List Addr}, Slots K ps F H G os bs → G'.length = G.length → (∀ (i : Nat) (s : Sh), G'[i]? = some s → s = Sh.any ∨ G[i]? = some s) → ∃ cs, Slots K ps F H G' os cs ∧ cs.Sublist bs := by
    intro G G' os bs q
    induction q generalizing G' with
    | nil => intro l _; cases G' with | nil => exact ⟨[], .nil, .refl _⟩ | cons _ _ => cases l
    | no q ih =>
      intro l h
      cases G' with
      | nil => cases l
      | cons g G' =>
        obtain ⟨cs, i1, i2⟩ := ih (by simpa using l) fun i s e => by simpa using h (i + 1) s (by simpa using e)
        have hg := h 0 g rfl
        obtain rfl : g = Sh.any := hg.elim id (fun e => (Option.some.inj e).symm)
        exact ⟨cs, .no i1, i2⟩
    | cons h' q ih =>
      intro l h
      cases G' with
      | nil => cases l
      | cons g G' =>
        obtain ⟨cs, i1, i2⟩ := ih (by simpa using l) fun i s e => by simpa using h (i + 1) s (by simpa using e)
        have hg := h 0 g rfl
        rcases hg with rfl | hg
        · exact ⟨cs, .no i1, i2.trans (List.sublist_append_right ..)⟩
        · obtain rfl := Option.some.inj hg
          exact ⟨_, .cons h' i1, List.Sublist.append_left i2 _⟩
  obtain ⟨cs, q1, q2⟩ := go h3 l h
  exact ⟨k.ff, k.sub, k.keep, k.st, k.own, es, ls, as, cs, h1, h0, h2, q1, h4.sublist (List.Sublist.append_left (List.Sublist.append_left (List.Sublist.append_left q2 _) _) _), h5, fun a m => h6 a ((List.Sublist.append_left (List.Sublist.append_left q2 _) _).subset m)⟩
end
end Z

/-! ZD: what is walked; for, while, comprehensions; targets. -/
namespace Z
open PySem L2
open Enc (enc)

/-! ### cutting back what a turn made -/
def Cn.cut (C : Cn) (m : Nat) : Cn := ⟨C.P, C.L.take m, C.G.map (Sh.cut m)⟩
def Cn.fits (C : Cn) (m : Nat) : Bool := Sh.belL m C.P && Sh.belL m (C.L.take m)
section
variable {K : PySem.W.Frag} {B : Bs} {C : Cn} {ps : List V × List V} {ts qs : List V} {T : List Sh} {σ : L2.St} {F H : Hp}
theorem SepL.take {ps : List V × List V} : ∀ {ss : List Sh} {vs : List V} {as : List Addr} (n : Nat), SepL K ps F H ss vs as → ∃ as', SepL K ps F H (ss.take n) (vs.take n) as' ∧ as'.Sublist as
  | _, _, as, 0, _ => ⟨[], by simpa using .nil, List.nil_sublist as⟩
  | _, _, _, _ + 1, .nil => ⟨[], .nil, .refl _⟩
  | _, _, _, n + 1, .cons (as := as) h q => by
    obtain ⟨as', h1, h2⟩ := SepL.take n q
    exact ⟨as ++ as', .cons h h1, List.Sublist.append_left h2 _⟩
theorem Ok.bel (k : Ok K B ps ts T σ C F H) : Sh.belL ps.2.length T = true := by
  obtain ⟨es, ls, as, bs, h1, h0, h2, h3, h4⟩ := k.sl
  exact h2.isBelow
theorem Ok.cut {m : Nat} (k : Ok K B (ps.1, ps.2 ++ qs) ts T σ C F H) (hm : ps.2.length = m) (hT : Sh.belL m T = true) (hf : C.fits m = true) : Ok K B ps ts T σ (C.cut m) F H := by
  subst hm
  obtain ⟨es, ls, as, bs, h1, h0, h2, h3, h4, h5, h6⟩ := k.sl
  have hf' : Sh.belL ps.2.length C.P = true ∧ Sh.belL ps.2.length (C.L.take ps.2.length) = true := by simpa [Cn.fits] using hf
  obtain ⟨ls', q1, q2⟩ := h0.take ps.2.length
  obtain ⟨bs', q3, q4⟩ := Slots.less (ps := ps) h3
  have e : (ps.2 ++ qs).take ps.2.length = ps.2 := by simp
  rw [show ((ps.1, ps.2 ++ qs) : List V × List V).2 = ps.2 ++ qs from rfl, e] at q1
  refine ⟨k.ff, k.sub, k.keep, k.st, k.own, es, ls', as, bs', h1.less hf'.1, q1.less hf'.2, h2.less hT, q3, ?_, h5, fun a m => h6 a ?_⟩
  · exact h4.sublist (List.Sublist.append_left (q2.append (List.Sublist.append_left q4 _)) _)
  · exact (q2.append (List.Sublist.append_left q4 _)).subset m
end

/-- data from below the top taken out -/
theorem Ok.under {K : PySem.W.Frag} {B : Bs} {C : Cn} {ps : List V × List V} {ts ws : List V} {T : List Sh} {ds : List PyData} {σ : L2.St} {F H : Hp} {v : V} {s : Sh} (hl : ws.length = (ds.map Sh.dat).length) (k : Ok K B ps (v :: (ws ++ ts)) (s :: (ds.map Sh.dat ++ T)) σ C F H) : Ok K B ps (v :: ts) (s :: T) σ C F H := by
  obtain ⟨es, ls, as, bs, h1, h0, h2, h3, h4, h5, h6⟩ := k.sl
  cases h2 with
  | cons h2 h7 =>
    obtain ⟨ws1, ws2, cs, cs', e1, rfl, q1, q2⟩ := h7.split
    obtain ⟨rfl, rfl⟩ := List.append_inj e1 (by rw [hl, q1.length])
    obtain ⟨_, rfl⟩ := q1.data
    exact ⟨k.ff, k.sub, k.keep, k.st, k.own, es, ls, _, bs, h1, h0, .cons h2 q2, h3, h4, h5, h6⟩

/-! ### what is walked -/
def IJ (K : PySem.W.Frag) (B : Bs) (C : Cn) (wi : TI) (n : Nat) (item : Nat → PyData) (C' : Cn) : Prop :=
  ∀ ps ts T σ F H, Ok K B ps ts T σ C F H → ∀ R : It → Hp → Prop,
    (∀ J ws ds F' H', ws.length = (ds.map Sh.dat).length → Ok K B ps (ws ++ ts) (ds.map Sh.dat ++ T) σ C' F' H' →
      (∀ i ps2 ts2 T2 σ2 C2 F2 H2, Ok K B ps2 ts2 T2 σ2 C2 F2 H2 → RpL K F2 ws ds →
        (i < n → J.go i H2 ∧ ∀ x H3, J.yld i H2 x H3 → ∃ F3, Ok K B ps2 (x :: ts2) (.dat (item i) :: T2) σ2 C2 F3 H3) ∧ (n ≤ i → J.stop i H2)) → R J H') → wi σ H R
structure ZI (S : Sx) (B : Bs) (C : Cn) (tg it : Expr) (n : Nat) (item : Nat → PyData) (C' : Cn) : Prop where
  run : ∀ X, Fam S X → IJ S.K B C (wpI X tg it) n item C'
instance (S : Sx) (B : Bs) (C : Cn) (tg it : Expr) (n : Nat) (item : Nat → PyData) (C' : Cn) : CoeFun (ZI S B C tg it n item C') (fun _ => ∀ X, Fam S X → IJ S.K B C (wpI X tg it) n item C') := ⟨ZI.run⟩

section
variable {K : PySem.W.Frag} {B : Bs} {C C1 C2 : Cn}
theorem ij_list {tl : TE} {ds : List PyData} (h : EJ K B C tl (.dat (.list ds)) C1) : IJ K B C (iList K tl) ds.length (fun i => ds.getD i .none) C1 := fun ps ts T σ F H k R q =>
  h ps ts T σ F H k _ fun v F1 H1 k1 => by
    cases k1.top with
    | lst hs hr =>
      rename_i a xs
      refine ⟨a, rfl, ⟨xs, k1.sub.seq hs⟩, q _ [.ref a] [.list ds] F1 H1 rfl k1 fun i ps2 ts2 T2 σ2 C2 F2 H2 k2 r2 => ?_⟩
      cases r2 with
      | cons r2 _ =>
        cases r2 with
        | lst hs2 hr2 =>
          rename_i ys
          have sq := k2.sub.seq hs2
          refine ⟨fun hi => ?_, fun hi => ⟨ys, sq, by rw [hr2.length]; exact hi⟩⟩
          obtain ⟨y, e1, e2⟩ := hr2.get (i := i) (d := ds[i]) (List.getElem?_eq_getElem hi)
          refine ⟨⟨ys, y, sq, e1⟩, fun x H3 hy => ?_⟩
          obtain ⟨rfl, hy⟩ := hy
          obtain rfl : y = x := Option.some.inj (e1.symm.trans (hy ys sq))
          show ∃ F3, Ok K B ps2 (y :: ts2) (.dat (ds.getD i .none) :: T2) σ2 C2 F3 H3
          rw [List.getD_eq_getElem?_getD, List.getElem?_eq_getElem hi]
          exact ⟨F2, k2.push e2⟩
theorem ij_tup {tl : TE} {ds : List PyData} (h : EJ K B C tl (.dat (.tuple ds)) C1) : IJ K B C (iTup K tl) ds.length (fun i => ds.getD i .none) C1 := fun ps ts T σ F H k R q =>
  h ps ts T σ F H k _ fun v F1 H1 k1 => by
    cases k1.top with
    | tup hs hr =>
      rename_i a xs
      refine ⟨a, rfl, ⟨xs, sqT_mono k1.sub hs⟩, q _ [.ref a] [.tuple ds] F1 H1 rfl k1 fun i ps2 ts2 T2 σ2 C2 F2 H2 k2 r2 => ?_⟩
      cases r2 with
      | cons r2 _ =>
        cases r2 with
        | tup hs2 hr2 =>
          rename_i ys
          have sq := sqT_mono k2.sub hs2
          refine ⟨fun hi => ?_, fun hi => ⟨ys, sq, by rw [hr2.length]; exact hi⟩⟩
          obtain ⟨y, e1, e2⟩ := hr2.get (i := i) (d := ds[i]) (List.getElem?_eq_getElem hi)
          refine ⟨⟨ys, y, sq, e1⟩, fun x H3 hy => ?_⟩
          obtain ⟨rfl, hy⟩ := hy
          obtain rfl : y = x := Option.some.inj (e1.symm.trans (hy ys sq))
          show ∃ F3, Ok K B ps2 (y :: ts2) (.dat (ds.getD i .none) :: T2) σ2 C2 F3 H3
          rw [List.getD_eq_getElem?_getD, List.getElem?_eq_getElem hi]
          exact ⟨F2, k2.push e2⟩
theorem ij_rng1 {ta : TA} {j : Int} (h : AJ K B C ta [Sh.of j] C1) (hj : j ≤ 1000000 := by omega) (hj0 : -1000000 ≤ j := by omega) : IJ K B C (iRng1 ta) j.toNat (fun i => enc (i : Int)) C1 := fun ps ts T σ F H k R q =>
  h ps ts T σ F H k _ fun vs F1 H1 hl k1 => by
    match vs, hl with
    | [v], _ =>
      cases k1.top with
      | int =>
        refine ⟨j, rfl, by omega, by omega, q _ [] [] F1 H1 rfl k1.pop fun i ps2 ts2 T2 σ2 C2 F2 H2 k2 _ => ⟨fun hi => ⟨hi, fun x H3 hy => ?_⟩, fun hi => hi⟩⟩
        obtain ⟨rfl, rfl⟩ := hy
        rw [Int.zero_add]
        exact ⟨F2, k2.push (.int _)⟩
theorem ij_rng2 {ta : TA} {i0 j : Int} (h : AJ K B C ta [Sh.of i0, Sh.of j] C1) (hj : j ≤ 1000000 := by omega) (hj0 : -1000000 ≤ j := by omega) (hi : i0 ≤ 1000000 := by omega) (hi0 : -1000000 ≤ i0 := by omega) : IJ K B C (iRng2 ta) (j - i0).toNat (fun i => enc (i0 + (i : Int))) C1 := fun ps ts T σ F H k R q =>
  h ps ts T σ F H k _ fun vs F1 H1 hl k1 => by
    match vs, hl with
    | [v, w], _ =>
      cases k1.top with
      | int =>
        cases k1.pop.top with
        | int =>
          refine ⟨i0, j, rfl, ⟨by omega, by omega, by omega, by omega⟩, q _ [] [] F1 H1 rfl k1.pop.pop fun i ps2 ts2 T2 σ2 C2 F2 H2 k2 _ => ⟨fun hi => ⟨hi, fun x H3 hy => ?_⟩, fun hi => hi⟩⟩
          obtain ⟨rfl, rfl⟩ := hy
          exact ⟨F2, k2.push (.int _)⟩
theorem ij_enum {ta : TA} {ds : List PyData} (h : AJ K B C ta [.dat (.list ds)] C1) : IJ K B C (iEnum K ta) ds.length (fun i => .tuple [enc (i : Int), ds.getD i .none]) C1 := fun ps ts T σ F H k R q =>
  h ps ts T σ F H k _ fun vs F1 H1 hl k1 => by
    match vs, hl with
    | [v], _ =>
      cases k1.top with
      | @lst a xs _ hs hr =>
        refine ⟨a, xs, rfl, k1.sub.seq hs, q _ [.ref a] [.list ds] F1 H1 rfl k1 fun i ps2 ts2 T2 σ2 C2 F2 H2 k2 r2 => ?_⟩
        cases r2 with
        | cons r2 _ =>
          cases r2 with
          | lst hs2 hr2 =>
            rename_i ys
            have sq := k2.sub.seq hs2
            refine ⟨fun hi => ?_, fun hi => ⟨ys, sq, by rw [hr2.length]; exact hi⟩⟩
            obtain ⟨y, e1, e2⟩ := hr2.get (i := i) (d := ds[i]) (List.getElem?_eq_getElem hi)
            refine ⟨⟨ys, y, sq, e1⟩, fun x H3 hy => ?_⟩
            obtain ⟨T, z, rfl, hT, rfl, hy⟩ := hy
            obtain rfl : y = z := Option.some.inj (e1.symm.trans (hy ys sq))
            show ∃ F3, Ok K B ps2 (.ref T :: ts2) (.dat (.tuple [enc ((i : Nat) : Int), ds.getD i .none]) :: T2) σ2 C2 F3 _
            rw [List.getD_eq_getElem?_getD, List.getElem?_eq_getElem hi]
            exact ⟨upd F2 T _, (k2.laid hT).push (.tup (.inl (.inl upd_same)) (.cons (.int _) (.cons (e2.mono (same_new (k2.fresh hT).1)) .nil)))⟩
theorem ij_zip {ta : TA} {ds es : List PyData} (h : AJ K B C ta [.dat (.list ds), .dat (.list es)] C1) : IJ K B C (iZip K ta) (min ds.length es.length) (fun i => .tuple [ds.getD i .none, es.getD i .none]) C1 := fun ps ts T σ F H k R q =>
  h ps ts T σ F H k _ fun vs F1 H1 hl k1 => by
    match vs, hl with
    | [v, w], _ =>
      cases k1.top with
      | @lst a xs _ hs hr =>
        cases k1.pop.top with
        | @lst b ys _ hs' hr' =>
          refine ⟨a, b, xs, ys, rfl, k1.sub.seq hs, k1.sub.seq hs', q _ [.ref a, .ref b] [.list ds, .list es] F1 H1 rfl k1 fun i ps2 ts2 T2 σ2 C2 F2 H2 k2 r2 => ?_⟩
          cases r2 with
          | cons r2 r3 =>
            cases r2 with
            | @lst _ xs2 _ hs2 hr2 =>
              cases r3 with
              | cons r3 _ =>
                cases r3 with
                | @lst _ ys2 _ hs3 hr3 =>
                  have sq := k2.sub.seq hs2
                  have sq' := k2.sub.seq hs3
                  refine ⟨fun hi => ?_, fun hi => ⟨xs2, ys2, sq, sq', by rw [hr2.length, hr3.length]; omega⟩⟩
                  have h1 : i < ds.length := by omega
                  have h2 : i < es.length := by omega
                  obtain ⟨y, e1, e2⟩ := hr2.get (i := i) (d := ds[i]) (List.getElem?_eq_getElem h1)
                  obtain ⟨y', e1', e2'⟩ := hr3.get (i := i) (d := es[i]) (List.getElem?_eq_getElem h2)
                  refine ⟨⟨xs2, ys2, y, y', sq, sq', e1, e1'⟩, fun x H3 hy => ?_⟩
                  obtain ⟨T, z, z', rfl, hT, rfl, hy, hy'⟩ := hy
                  obtain rfl : y = z := Option.some.inj (e1.symm.trans (hy xs2 sq))
                  obtain rfl : y' = z' := Option.some.inj (e1'.symm.trans (hy' ys2 sq'))
                  show ∃ F3, Ok K B ps2 (.ref T :: ts2) (.dat (.tuple [ds.getD i .none, es.getD i .none]) :: T2) σ2 C2 F3 _
                  rw [List.getD_eq_getElem?_getD, List.getElem?_eq_getElem h1, List.getD_eq_getElem?_getD, List.getElem?_eq_getElem h2]
                  have sF := same_new (o := .tup [y, y']) (k2.fresh hT).1
                  exact ⟨upd F2 T _, (k2.laid hT).push (.tup (.inl (.inl upd_same)) (.cons (e2.mono sF) (.cons (e2'.mono sF) .nil)))⟩
end

section
variable {S : Sx} {B : Bs} {C C1 C2 C3 : Cn} {e a b c tg it elt : Expr} {es ifs : List Expr} {s sa sb r : Sh} {ss : List Sh} {pos p p1 p2 : Pos} {E : ZEnds} {x : Str} {i j n : Nat} {d : PyData} {ds : List PyData} {item : Nat → PyData}
theorem zi_list (h : ZE S B C it (.dat (.list ds)) C1) : ZI S B C tg it ds.length (fun i => ds.getD i .none) C1 := .mk fun X hX ps ts T σ F H k R q => to_i (pi_list pe_wp) (by
  have h' := h X hX
  obtain ⟨rfl, _, _⟩ := hX
  exact ij_list h' ps ts T σ F H k R q)
theorem zi_tup (h : ZE S B C it (.dat (.tuple ds)) C1) : ZI S B C tg it ds.length (fun i => ds.getD i .none) C1 := .mk fun X hX ps ts T σ F H k R q => to_i (pi_tup pe_wp) (by
  have h' := h X hX
  obtain ⟨rfl, _, _⟩ := hX
  exact ij_tup h' ps ts T σ F H k R q)
theorem zi_rng1 {j : Int} (h : ZA S B C [a] [Sh.of j] C1) (hm : S.mg "range" = none) (hj : j ≤ 1000000 := by omega) (hj0 : -1000000 ≤ j := by omega) (hg : S.scope.names.lookup ("range" : Str) = some .globalImplicit := by rfl) (hs : ∀ env, starEach [a] env = [(false, eval a env)] := by intro _; rfl) :
    ZI S B C tg (.Call (.Name "range" p) [a] [] pos) j.toNat (fun i => enc (i : Int)) C1 := .mk fun X hX ps ts T σ F H k R q => by
  have h' := h X hX
  obtain ⟨rfl, _, _⟩ := hX
  exact to_i (pi_range1 hg hm pa_wp (hs X.env)) (ij_rng1 h' hj hj0 ps ts T σ F H k R q)
theorem zi_rng2 {i0 j : Int} (h : ZA S B C [a, b] [Sh.of i0, Sh.of j] C1) (hm : S.mg "range" = none) (hj : j ≤ 1000000 := by omega) (hj0 : -1000000 ≤ j := by omega) (hi : i0 ≤ 1000000 := by omega) (hi0 : -1000000 ≤ i0 := by omega) (hg : S.scope.names.lookup ("range" : Str) = some .globalImplicit := by rfl)
    (hs : ∀ env, starEach [a, b] env = [(false, eval a env), (false, eval b env)] := by intro _; rfl) (hs2 : ∀ env, starEach [b] env = [(false, eval b env)] := by intro _; rfl) :
    ZI S B C tg (.Call (.Name "range" p) [a, b] [] pos) (j - i0).toNat (fun i => enc (i0 + (i : Int))) C1 := .mk fun X hX ps ts T σ F H k R q => by
  have h' := h X hX
  obtain ⟨rfl, _, _⟩ := hX
  exact to_i (pi_range2 hg hm pa_wp (hs X.env) (hs2 X.env)) (ij_rng2 h' hj hj0 hi hi0 ps ts T σ F H k R q)

/-! ### for -/
theorem for_core {K : PySem.W.Frag} {wi : TI} {g : TG} {tb : TS} (hi : IJ K B C wi n item C1) (Iv : Nat → Cn → Prop) (h0 : Iv 0 C1) (hm : ∀ i C', Iv i C' → C'.L.length = C1.L.length)
    (hb : ∀ i C', i < n → Iv i C' → ∃ C2, GJ K B C' g (.dat (item i)) C2 ∧ SJ K B C2 tb { E with nx := fun C'' => C''.fits C1.L.length = true ∧ Iv (i + 1) (C''.cut C1.L.length), ct := fun C'' => C''.fits C1.L.length = true ∧ Iv (i + 1) (C''.cut C1.L.length), bk := E.nx })
    (hd : ∀ C', Iv n C' → E.nx C') : SJ K B C (tFor wi g tb) E := by
  intro ps ts T σ F H D k q
  refine hi ps ts T σ F H k _ fun J ws ds F1 H1 hl k1 turn => ?_
  have drp : ∀ {qs C' σ' F' H'}, Ok K B (ps.1, ps.2 ++ qs) (ws ++ ts) (ds.map Sh.dat ++ T) σ' C' F' H' → Ok K B (ps.1, ps.2 ++ qs) ts T σ' C' F' H' := fun k => k.pops hl
  have hT := k1.bel
  rw [← k1.lenL] at hT
  refine ⟨fun i m σ' H' => m + i = n ∧ ∃ C' F', Iv i C' ∧ Ok K B ps (ws ++ ts) (ds.map Sh.dat ++ T) σ' C' F' H', ⟨n, rfl, C1, F1, h0, k1⟩, ?_⟩
  rintro i m σ' H' ⟨em, C', F', iv, k'⟩
  have rd := k'.splitD hl
  obtain ⟨t1, t2⟩ := turn i _ _ _ _ _ _ _ k' rd
  by_cases hin : i < n
  · obtain ⟨g1, g2⟩ := t1 hin
    obtain ⟨C2, b1, b2⟩ := hb i C' hin iv
    refine .inr ⟨g1, fun σ2 H2 => ∃ C'' F'', Iv (i + 1) C'' ∧ Ok K B ps (ws ++ ts) (ds.map Sh.dat ++ T) σ2 C'' F'' H2, fun σ2 H2 ⟨C'', F'', iv', k''⟩ => ⟨m - 1, by omega, by omega, C'', F'', iv', k''⟩, fun x H3 hy => ?_⟩
    obtain ⟨F3, k3⟩ := g2 x H3 hy
    refine b1 ps _ _ σ' x F3 H3 k3 _ fun σ4 F4 H4 k4 => b2 ps _ _ σ4 F4 H4 _ k4 ⟨fun qs C5 σ5 F5 H5 e k5 => ?_, fun qs s v C5 σ5 F5 H5 e k5 => ?_, fun qs C5 σ5 F5 H5 e k5 => ?_, fun qs C5 σ5 F5 H5 e k5 => ?_⟩
    · exact ⟨_, F5, e.2, k5.cut k1.lenL.symm hT e.1⟩
    · exact q.rt qs s v C5 σ5 F5 H5 e (k5.under hl)
    · exact q.nx qs C5 σ5 F5 H5 e (k5.pops hl)
    · exact ⟨_, F5, e.2, k5.cut k1.lenL.symm hT e.1⟩
  · have e : i = n := by omega
    subst e
    refine .inl ⟨t2 (Nat.le_refl _), q.nx [] C' σ' F' H' (hd C' iv) ?_⟩
    simpa using k'.pops hl
theorem zs_for {rest body : List Stmt} (hi : ZI S B C tg it n item C1) (Iv : Nat → Cn → Prop) (h0 : Iv 0 C1) (hm : ∀ i C', Iv i C' → C'.L.length = C1.L.length)
    (hb : ∀ i C', i < n → Iv i C' → ∃ C2, ZG S B C' tg (.dat (item i)) C2 ∧ ZS S B C2 body { E with nx := fun C'' => C''.fits C1.L.length = true ∧ Iv (i + 1) (C''.cut C1.L.length), ct := fun C'' => C''.fits C1.L.length = true ∧ Iv (i + 1) (C''.cut C1.L.length), bk := fun C'' => ZS S B C'' rest E })
    (hd : ∀ C', Iv n C' → ZS S B C' rest E) (hs : ∀ env x, foldedSetIterable it env x = pure x := by intro _ _; rfl) : ZS S B C (.For tg it body [] pos :: rest) E := zs_cons fun X hX =>
  fun ps ts T σ F H D k q => to_s (ps_for hX.own hX.calm pi_wp pg_wp pss_wp (hs X.env))
    (for_core (E := { E with nx := fun C'' => ZS S B C'' rest E }) (hi X hX) Iv h0 hm (fun i C' hin iv => let ⟨C2, b1, b2⟩ := hb i C' hin iv; ⟨C2, b1 X hX, b2 X hX⟩) hd ps ts T σ F H D k q)

/-! ### while -/
theorem zs_while {rest body : List Stmt} (Iv : Nat → Cn → Prop) (m0 : Nat) (h0 : Iv m0 C)
    (hs : ∀ m C', Iv m C' → ∃ t C1, ZT S B C' c t C1 ∧ (t = true → ZS S B C1 body { E with nx := fun C'' => C''.fits C.L.length = true ∧ ∃ m', m' < m ∧ Iv m' (C''.cut C.L.length), ct := fun C'' => C''.fits C.L.length = true ∧ ∃ m', m' < m ∧ Iv m' (C''.cut C.L.length), bk := fun C'' => ZS S B C'' rest E }) ∧ (t = false → ZS S B C1 rest E)) :
    ZS S B C (.While c body [] pos :: rest) E := zs_cons fun X hX ps ts T σ F H D k q => to_s (ps_while hX.own pt_wp pss_wp) (by
  have hT := k.bel
  rw [← k.lenL] at hT
  refine ⟨fun m σ' H' => ∃ C' F', Iv m C' ∧ Ok S.K B ps ts T σ' C' F' H', ⟨m0, C, F, h0, k⟩, ?_⟩
  rintro m σ' H' ⟨C', F', iv, k'⟩
  obtain ⟨t, C1, c1, c2, c3⟩ := hs m C' iv
  refine c1 X hX ps ts T σ' F' H' k' _ fun F2 H2 k2 => ?_
  cases t with
  | true =>
    rw [if_pos rfl]
    refine ⟨fun σ2 H2 => ∃ m', m' < m ∧ ∃ C'' F'', Iv m' C'' ∧ Ok S.K B ps ts T σ2 C'' F'' H2, fun σ2 H2 h => h, ?_⟩
    refine c2 rfl X hX ps ts T σ' F2 H2 _ k2 ⟨fun qs C5 σ5 F5 H5 e k5 => ?_, q.rt, q.nx, fun qs C5 σ5 F5 H5 e k5 => ?_⟩
    · obtain ⟨e1, m', e2, e3⟩ := e
      exact ⟨m', e2, _, F5, e3, k5.cut k.lenL.symm hT e1⟩
    · obtain ⟨e1, m', e2, e3⟩ := e
      exact ⟨m', e2, _, F5, e3, k5.cut k.lenL.symm hT e1⟩
  | false =>
    rw [if_neg nofun]
    exact q.nx [] C1 σ' F2 H2 (c3 rfl) (by simpa using k2))

/-! ### targets -/
theorem zg_name (i : Nat) (hl : i < C.G.length := by exact Nat.le_of_ble_eq_true rfl) (hN : S.N[i]? = some x := by rfl) (hx : Loc S.scope x := by first | exact Or.inl rfl | exact Or.inr rfl) (hn : S.N.Nodup := by decide)
    (hf : S.fn x = true ∨ S.scope.names.lookup x = some .local := by first | exact .inl rfl | exact .inr rfl) : ZG S B C (.Name x pos) s (C.set i s) := by
  refine .mk ?_
  rintro X ⟨rfl, _, _⟩ ps ts T σ v F H k Q q
  exact to_g (pg_name hn hN hx hf) (q _ F H (k.store hl))
/-- the same slots but these -/
def Agree (us : List Nat) (σ σ' : L2.St) : Prop := σ'.length = σ.length ∧ ∀ i, i ∉ us → σ'[i]? = σ[i]?
theorem Agree.refl {us : List Nat} {σ : L2.St} : Agree us σ σ := ⟨rfl, fun _ _ => rfl⟩
theorem Agree.trans {us vs : List Nat} {σ σ' σ2 : L2.St} (a : Agree us σ σ') (b : Agree vs σ' σ2) : Agree (us ++ vs) σ σ2 :=
  ⟨b.1.trans a.1, fun i h => (b.2 i fun m => h (List.mem_append_right _ m)).trans (a.2 i fun m => h (List.mem_append_left _ m))⟩
theorem Agree.set {i : Nat} {σ : L2.St} {o : Option V} : Agree [i] σ (σ.set i o) := ⟨by simp, fun j h => by
  rw [List.getElem?_set_ne]
  intro e
  exact h (by simp [e])⟩
theorem wipe_get {σ : L2.St} {i : Nat} : ∀ {vs : List Nat}, (wipe σ vs)[i]? = if i ∈ vs then (if i < σ.length then some none else none) else σ[i]?
  | [] => by simp [wipe]
  | v :: vs => by
    unfold wipe
    by_cases h : i = v
    · subst h
      by_cases h2 : i < σ.length
      · rw [List.getElem?_set_self (by rw [wipe_length]; exact h2)]
        simp [h2]
      · rw [List.getElem?_eq_none (by simp [wipe_length]; omega)]
        simp [h2]
    · rw [List.getElem?_set_ne (Ne.symm h), wipe_get]
      simp [h]
theorem Agree.wipe {us vs : List Nat} {σ σ' : L2.St} (a : Agree us σ σ') (h : ∀ u ∈ us, u ∈ vs) : wipe σ' vs = wipe σ vs := by
  refine List.ext_getElem? fun i => ?_
  rw [wipe_get, wipe_get, a.1]
  by_cases m : i ∈ vs
  · simp [m]
  · simp [m, a.2 i fun z => m (h i z)]
theorem wipe_wipe {vs : List Nat} {σ : L2.St} : wipe (wipe σ vs) vs = wipe σ vs := by
  refine List.ext_getElem? fun i => ?_
  rw [wipe_get, wipe_get, wipe_length]
  by_cases m : i ∈ vs
  · simp [m]
  · simp [m]
/-- several targets: the data of a tuple -/
def GsJ (K : PySem.W.Frag) (B : Bs) (C : Cn) (g : TGs) (ds : List PyData) (us : List Nat) (C' : Cn) : Prop :=
  ∀ ps ts T σ vs F H, Ok K B ps ts T σ C F H → RpL K F vs ds → ∀ Q : L2.St → Hp → Prop, (∀ σ' F' H', Agree us σ σ' → Same F F' → Ok K B ps ts T σ' C' F' H' → Q σ' H') → g vs σ H Q
def wpGs (X : Cx) (tgs : List Expr) : TGs := fun vs σ H Q => ∀ pins s us, Inv X pins σ H s → Vals vs us → wpAny (model X.prog X.w) X.A (assignInOrder ((assignEach tgs X.env).map (·.2)) us) (fun _ s' => ∃ σ' H', Inv X pins σ' H' s' ∧ Q σ' H') X.xe s
theorem pgs_wp {X : Cx} : PGs X es (wpGs X es) := ⟨fun pins s _ _ _ us _ I r h => h pins s us I r⟩
theorem to_gs {X : Cx} {t : TGs} (p : PGs X es t) {vs σ H Q} (h : t vs σ H Q) : wpGs X es vs σ H Q := fun pins s us I r => p.run pins s σ H vs us Q I r h
structure ZGs (S : Sx) (B : Bs) (C : Cn) (tgs : List Expr) (ds : List PyData) (us : List Nat) (C' : Cn) : Prop where
  run : ∀ X, Fam S X → GsJ S.K B C (wpGs X tgs) ds us C'
instance (S : Sx) (B : Bs) (C : Cn) (tgs : List Expr) (ds : List PyData) (us : List Nat) (C' : Cn) : CoeFun (ZGs S B C tgs ds us C') (fun _ => ∀ X, Fam S X → GsJ S.K B C (wpGs X tgs) ds us C') := ⟨ZGs.run⟩
/-- a target, what stands in F staying -/
structure ZG' (S : Sx) (B : Bs) (C : Cn) (tg : Expr) (d : PyData) (us : List Nat) (C' : Cn) : Prop where
  run : ∀ X, Fam S X → ∀ ps ts T σ v F H, Ok S.K B ps ts T σ C F H → Rp S.K F v d → ∀ Q : L2.St → Hp → Prop, (∀ σ' F' H', Agree us σ σ' → Same F F' → Ok S.K B ps ts T σ' C' F' H' → Q σ' H') → wpG X tg v σ H Q
instance (S : Sx) (B : Bs) (C : Cn) (tg : Expr) (d : PyData) (us : List Nat) (C' : Cn) : CoeFun (ZG' S B C tg d us C') (fun _ => ∀ X, Fam S X → ∀ ps ts T σ v F H, Ok S.K B ps ts T σ C F H → Rp S.K F v d → ∀ Q : L2.St → Hp → Prop, (∀ σ' F' H', Agree us σ σ' → Same F F' → Ok S.K B ps ts T σ' C' F' H' → Q σ' H') → wpG X tg v σ H Q) := ⟨ZG'.run⟩
theorem ZG'.zg {us : List Nat} (h : ZG' S B C tg d us C1) : ZG S B C tg (.dat d) C1 := .mk fun X hX ps ts T σ v F H k Q q => h X hX ps ts T σ v F H k.pop k.top Q fun σ' F' H' _ _ k' => q σ' F' H' k'
theorem zg_name' (i : Nat) (hl : i < C.G.length := by exact Nat.le_of_ble_eq_true rfl) (hN : S.N[i]? = some x := by rfl) (hx : Loc S.scope x := by first | exact Or.inl rfl | exact Or.inr rfl) (hn : S.N.Nodup := by decide)
    (hf : S.fn x = true ∨ S.scope.names.lookup x = some .local := by first | exact .inl rfl | exact .inr rfl) : ZG' S B C (.Name x pos) d [i] (C.set i (.dat d)) := by
  refine .mk ?_
  rintro X ⟨rfl, _, _⟩ ps ts T σ v F H k r Q q
  exact to_g (pg_name hn hN hx hf) (q _ F H Agree.set (Same.refl _) ((k.push r).store hl))
theorem zgs_nil : ZGs S B C [] [] [] C := .mk fun X hX ps ts T σ vs F H k r Q q => to_gs pgs_nil (by cases r; exact ⟨rfl, q σ F H Agree.refl (Same.refl _) k⟩)
theorem zgs_cons {us us' : List Nat} (h : ZG' S B C e d us C1) (hr : ZGs S B C1 es ds us' C2) (hs : ∀ env, (assignEach (e :: es) env).map (·.2) = assign e env :: (assignEach es env).map (·.2) := by intro _; rfl) : ZGs S B C (e :: es) (d :: ds) (us ++ us') C2 := .mk fun X hX ps ts T σ vs F H k r Q q =>
  to_gs (pgs_cons pg_wp pgs_wp (hs X.env)) (by
    cases r with
    | cons r1 r2 =>
      exact ⟨_, _, rfl, h X hX ps ts T σ _ F H k r1 _ fun σ1 F1 H1 a1 s1 k1 => hr X hX ps ts T σ1 _ F1 H1 k1 (r2.mono s1) Q fun σ2 F2 H2 a2 s2 k2 => q σ2 F2 H2 (a1.trans a2) (s1.trans s2) k2⟩)
theorem zg_tup' {kk} {us : List Nat} (h : ZGs S B C es ds us C1) (hn : ∀ env, (assignEach es env).length = ds.length := by intro _; rfl) (hst : ∀ env, (assignEach es env).findIdx? (·.1) = none := by intro _; rfl) : ZG' S B C (.Tuple es kk pos) (.tuple ds) us C1 := .mk fun X hX ps ts T σ v F H k r Q q => by
  have h' := h X hX
  refine to_g (pg_tup hX.calm pgs_wp (hn X.env) (hst X.env)) ?_
  obtain ⟨rfl, _, _⟩ := hX
  cases r with
  | tup hs hr => exact ⟨_, _, rfl, sqT_mono k.sub hs, hr.length, h' ps ts T σ _ F H k hr Q q⟩
/-- target = e, of data -/
theorem zs_asg {rest : List Stmt} (he : ZE S B C e s C1) (hg : ZG S B C1 tg s C2) (hk : ZS S B C2 rest E) (hs : ∀ env, swapsWithSole [tg] e pos.line env = pure false := by intro _; rfl) (hw : ∀ env, swappedStores [tg] e env = pure none := by intro _; rfl)
    (h1 : ∀ env, (assignEach [tg] env).map (·.2) = [assign tg env] := by intro _; rfl) : ZS S B C (.Assign [tg] e pos :: rest) E := zs_cons fun X hX ps ts T σ F H D k q =>
  to_s (ps_asg pe_wp pg_wp (hs X.env) (hw X.env) (h1 X.env)) (he X hX ps ts T σ F H k _ fun v F' H' k' => hg X hX ps ts T σ v F' H' k' _ fun σ2 F2 H2 k2 => q.nx [] _ _ F2 H2 hk (by simpa using k2))
/-- a, b = e1, e2 -/
theorem zs_par {rest : List Stmt} {y : Str} {px py pt : Pos} {kt k2 pt2} (i j : Nat) {d1 d2 : PyData} (ha : ZA S B C [a, b] [.dat d1, .dat d2] C1) (hk : ZS S B ((C1.set i (.dat d1)).set j (.dat d2)) rest E)
    (hw : ∀ env, env.scope = S.scope → swappedStores [.Tuple [.Name x px, .Name y py] kt pt] (.Tuple [a, b] k2 pt2) env = pure (some [x, y])) (hli : i < C1.G.length := by exact Nat.le_of_ble_eq_true rfl) (hlj : j < C1.G.length := by exact Nat.le_of_ble_eq_true rfl) (hij : i ≠ j := by decide) (hi : S.N[i]? = some x := by rfl) (hj : S.N[j]? = some y := by rfl) (hn : S.N.Nodup := by decide)
    (hx : S.scope.names.lookup x = some .local := by rfl) (hy : S.scope.names.lookup y = some .local := by rfl)
    (hs : ∀ env, swapsWithSole [.Tuple [.Name x px, .Name y py] kt pt] (.Tuple [a, b] k2 pt2) pos.line env = pure false := by intro _; rfl) :
    ZS S B C (.Assign [.Tuple [.Name x px, .Name y py] kt pt] (.Tuple [a, b] k2 pt2) pos :: rest) E := zs_cons fun X hX ps ts T σ F H D k q => by
  have ha' := ha X hX
  have hc := hX.calm
  obtain ⟨rfl, _, _⟩ := hX
  refine to_s (ps_par hc hn hi hj hij hx hy pa_wp (hw X.env rfl) (hs X.env)) (ha' ps ts T σ F H k _ fun vs F' H' hl k' => ?_)
  match vs, hl with
  | [v, w], _ =>
    refine ⟨v, w, rfl, q.nx [] _ _ F' H' hk ?_⟩
    have k1 : Ok (Sx.of X).K B ps (w :: ts) (.dat d2 :: T) (σ.set i (some v)) (C1.set i (.dat d1)) F' H' := by
      have t1 := k'.top
      have t2 := k'.pop.top
      exact ((k'.pops (us := [v, w]) rfl).push t1 |>.store hli).push t2
    simpa using k1.store (by simpa using hlj)
end
end Z

/-! ZE: freezing; list comprehensions; zip, enumerate as what is walked. -/
namespace Z
open PySem L2
open Enc (enc)
section
variable {K : PySem.W.Frag} {B : Bs} {C : Cn} {ps : List V × List V} {ts qs : List V} {T : List Sh} {σ : L2.St} {F H : Hp} {v : V} {s : Sh} {d : PyData} {j : Nat}
/-- what lies on top will not change any more -/
theorem Ok.freeze (k : Ok K B ps (v :: ts) (s :: T) σ C F H) (h : s.data = some d) : ∃ F', Ok K B ps (v :: ts) (.dat d :: T) σ C F' H := by
  obtain ⟨es, ls, as, bs, h1, h0, h2, h3, h4, h5, h6⟩ := k.sl
  cases h2 with
  | @cons _ _ _ _ a1 a2 h2 h7 =>
    have nd := h4
    simp only [List.nodup_append, List.mem_append] at nd
    obtain ⟨-, ⟨-, ⟨⟨-, -, n1⟩, -, n2⟩, n3⟩, n4⟩ := nd
    have dis : ∀ a ∈ a1, a ∉ es ∧ a ∉ ls ∧ a ∉ a2 ∧ a ∉ bs := fun a m =>
      ⟨fun z => n4 a z a (.inr (.inl (.inl m))) rfl, fun z => n3 a z a (.inl (.inl m)) rfl, fun z => n1 a m a z rfl, fun z => n2 a (.inl m) a z rfl⟩
    have hF : ∀ a ∈ a1, F a = none ∧ H a ≠ none := h2.there
    have sF : Same F (fun a => if a ∈ a1 then H a else F a) := fun a o e => by
      show (if a ∈ a1 then H a else F a) = some o
      by_cases m : a ∈ a1
      · rw [(hF a m).1] at e; cases e
      · rw [if_neg m]; exact e
    have eq : ∀ {xs : List Addr}, (∀ a ∈ xs, F a = none ∧ H a ≠ none) → (∀ a ∈ xs, a ∉ a1) → ∀ a ∈ xs, (if a ∈ a1 then H a else F a) = none ∧ H a = H a := fun q n a m => by
      rw [if_neg (n a m)]
      exact ⟨(q a m).1, rfl⟩
    refine ⟨fun a => if a ∈ a1 then H a else F a, k.ff.trans sF, fun a o e => ?_, k.keep, k.st, fun a e1 e2 => ?_, es, ls, a2, bs, h1.mono sF (eq h1.there fun a m z => (dis a z).1 m), h0.mono sF (eq h0.there fun a m z => (dis a z).2.1 m),
      .cons (as := []) (.dat (h2.frozen sF h fun a m => if_pos m)) (h7.mono sF (eq h7.there fun a m z => (dis a z).2.2.1 m)), h3.mono sF (eq h3.there fun a m z => (dis a z).2.2.2 m), ?_, h5, fun a m => h6 a ?_⟩
    · have e : (if a ∈ a1 then H a else F a) = some o := e
      by_cases m : a ∈ a1
      · rw [if_pos m] at e; exact e
      · rw [if_neg m] at e; exact k.sub a o e
    · show (if a ∈ a1 then H a else F a) = none
      by_cases m : a ∈ a1
      · exact absurd (h6 a (by simp [m])) e2
      · rw [if_neg m]; exact k.own a e1 e2
    · refine h4.sublist (List.Sublist.append_left (List.Sublist.append_left ?_ _) _)
      rw [List.append_assoc]
      exact List.sublist_append_right ..
    · simp only [List.nil_append, List.mem_append] at m ⊢
      rcases m with m | m | m
      · exact .inl m
      · exact .inr (.inl (.inr m))
      · exact .inr (.inr m)
/-- one of the things made here will not change any more -/
theorem Ok.freezeL (k : Ok K B ps ts T σ C F H) (hj : C.L[j]? = some s) (h : s.data = some d) : ∃ F', Ok K B ps ts T σ ⟨C.P, C.L.set j (.dat d), C.G⟩ F' H := by
  obtain ⟨es, ls, as, bs, h1, h0, h2, h3, h4, h5, h6⟩ := k.sl
  obtain ⟨v, a1, pre, post, g1, g2, rfl, g4⟩ := h0.at hj
  have nd := h4
  simp only [List.nodup_append, List.mem_append] at nd
  obtain ⟨-, ⟨⟨-, ⟨-, -, n1⟩, n2⟩, -, n3⟩, n4⟩ := nd
  have dis : ∀ a ∈ a1, a ∉ es ∧ a ∉ pre ∧ a ∉ post ∧ a ∉ as ∧ a ∉ bs := fun a m =>
    ⟨fun z => n4 a z a (.inl (.inr (.inl m))) rfl, fun z => n2 a z a (.inl m) rfl, fun z => n1 a m a z rfl, fun z => n3 a (.inr (.inl m)) a (.inl z) rfl, fun z => n3 a (.inr (.inl m)) a (.inr z) rfl⟩
  have hF : ∀ a ∈ a1, F a = none ∧ H a ≠ none := g2.there
  have sF : Same F (fun a => if a ∈ a1 then H a else F a) := fun a o e => by
    show (if a ∈ a1 then H a else F a) = some o
    by_cases m : a ∈ a1
    · rw [(hF a m).1] at e; cases e
    · rw [if_neg m]; exact e
  have eq : ∀ {xs : List Addr}, (∀ a ∈ xs, F a = none ∧ H a ≠ none) → (∀ a ∈ xs, a ∉ a1) → ∀ a ∈ xs, (if a ∈ a1 then H a else F a) = none ∧ H a = H a := fun q n a m => by
    rw [if_neg (n a m)]
    exact ⟨(q a m).1, rfl⟩
  refine ⟨fun a => if a ∈ a1 then H a else F a, k.ff.trans sF, fun a o e => ?_, k.keep, k.st, fun a e1 e2 => ?_, es, pre ++ ([] ++ post), as, bs, h1.mono sF (eq h1.there fun a m z => (dis a z).1 m),
    g4 _ H (.dat d) [] sF (fun a m => ?_) (.dat (g2.frozen sF h fun a m => if_pos m)), h2.mono sF (eq h2.there fun a m z => (dis a z).2.2.2.1 m), h3.mono sF (eq h3.there fun a m z => (dis a z).2.2.2.2 m), ?_, h5, fun a m => h6 a ?_⟩
  · have e : (if a ∈ a1 then H a else F a) = some o := e
    by_cases m : a ∈ a1
    · rw [if_pos m] at e; exact e
    · rw [if_neg m] at e; exact k.sub a o e
  · show (if a ∈ a1 then H a else F a) = none
    by_cases m : a ∈ a1
    · exact absurd (h6 a (by simp [m])) e2
    · rw [if_neg m]; exact k.own a e1 e2
  · refine eq (xs := pre ++ post) (fun a m => h0.there a ?_) (fun a m z => ?_) a m
    · simp only [List.mem_append] at m ⊢; rcases m with m | m; exact .inl m; exact .inr (.inr m)
    · rcases List.mem_append.mp m with m | m
      · exact (dis a z).2.1 m
      · exact (dis a z).2.2.1 m
  · refine h4.sublist (List.Sublist.append_left (List.Sublist.append_right (List.Sublist.append_left (List.Sublist.append_right (List.nil_sublist _) _) _) _) _)
  · simp only [List.nil_append, List.mem_append] at m ⊢
    rcases m with (m | m) | m | m
    · exact .inl (.inl m)
    · exact .inl (.inr (.inr m))
    · exact .inr (.inl m)
    · exact .inr (.inr m)
/-- the list on top but one gets one more -/
theorem Ok.snoc {p : Addr} {y : V} {ss : List Sh} (k : Ok K B ps (y :: .ref p :: ts) (s :: .ls ss :: T) σ C F H) : ∃ vs, H p = some (.lst vs) ∧ vs.length = ss.length ∧ Ok K B ps (.ref p :: ts) (.ls (ss ++ [s]) :: T) σ C F (upd H p (.lst (vs ++ [y]))) := by
  obtain ⟨es, ls, as, bs, h1, h0, h2, h3, h4, h5, h6⟩ := k.sl
  cases h2 with
  | @cons _ _ _ _ a1 a2 h2 h7 =>
    cases h7 with
    | @cons _ _ _ _ a3 a4 h7 h8 =>
      cases h7 with
      | @ls _ _ vs b1 g1 g2 g3 =>
        have nd := h4
        simp only [List.nodup_append, List.mem_append, List.mem_cons, List.nodup_cons] at nd
        obtain ⟨-, ⟨-, ⟨⟨-, ⟨⟨n0, -⟩, -, n1⟩, n2⟩, -, n3⟩, n4⟩, n5⟩ := nd
        have q1 : p ∉ es := fun z => n5 p z p (.inr (.inl (.inr (.inl (.inl rfl))))) rfl
        have q2 : p ∉ ls := fun z => n4 p z p (.inl (.inr (.inl (.inl rfl)))) rfl
        have q3 : p ∉ a1 := fun z => n2 p z p (.inl (.inl rfl)) rfl
        have q4 : p ∉ a4 := fun z => n1 p (.inl rfl) p z rfl
        have q5 : p ∉ bs := fun z => n3 p (.inr (.inl (.inl rfl))) p z rfl
        have eq : ∀ {xs : List Addr} {o : HO}, (∀ a ∈ xs, F a = none ∧ H a ≠ none) → p ∉ xs → ∀ a ∈ xs, F a = none ∧ (upd H p o) a = H a := fun q n a m =>
          ⟨(q a m).1, upd_ne fun e => n (e ▸ m)⟩
        have hp0 : B.H0 p = none := h6 p (by simp)
        refine ⟨vs, g2, g3.length.symm, k.ff, fun a o e => ?_, fun a o e m => ?_, upd_there k.st, k.own, es, ls, (p :: (b1 ++ a1)) ++ a4, bs, h1.mono (Same.refl _) (eq h1.there q1), h0.mono (Same.refl _) (eq h0.there q2),
          .cons (.ls g1 upd_same ((g3.mono (Same.refl _) (eq g3.there n0)).snoc (h2.mono (Same.refl _) (eq h2.there q3)))) (h8.mono (Same.refl _) (eq h8.there q4)), h3.mono (Same.refl _) (eq h3.there q5), ?_, h5, fun a m => h6 a ?_⟩
        · rw [upd_ne fun z => by subst z; rw [g1] at e; cases e]
          exact k.sub a o e
        · rw [upd_ne fun z => by subst z; rw [hp0] at e; cases e]
          exact k.keep a o e m
        · have hp : (es ++ (ls ++ (p :: (b1 ++ a1) ++ a4 ++ bs))).Perm (es ++ (ls ++ (a1 ++ (p :: b1 ++ a4) ++ bs))) := by
            refine List.Perm.append_left _ (List.Perm.append_left _ (List.Perm.append_right _ ?_))
            simp only [List.cons_append, List.append_assoc]
            refine List.Perm.trans ?_ List.perm_middle.symm
            exact List.Perm.cons _ (List.perm_append_comm_assoc ..)
          exact hp.nodup_iff.mpr h4
        · simp only [List.mem_append, List.mem_cons] at m ⊢
          rcases m with m | ((m | m | m) | m) | m
          · exact .inl m
          · exact .inr (.inl (.inr (.inl (.inl m))))
          · exact .inr (.inl (.inr (.inl (.inr m))))
          · exact .inr (.inl (.inl m))
          · exact .inr (.inl (.inr (.inr m)))
          · exact .inr (.inr m)
def Cn.wipe (C : Cn) : List Nat → Cn
  | [] => C
  | v :: vs => (C.wipe vs).set v .any
theorem Ok.wipe (k : Ok K B ps ts T σ C F H) : ∀ vs : List Nat, Ok K B ps ts T (L2.wipe σ vs) (C.wipe vs) F H
  | [] => k
  | v :: vs => (Ok.wipe k vs).wipe1 v
theorem Slots.unset {ps : List V × List V} : ∀ {ss : List Sh} {os : List (Option V)} {as : List Addr} {i : Nat} {o : Option V}, Slots K ps F H ss (os.set i o) as → ss[i]? = some .any → ∀ {o'}, os[i]? = some o' → Slots K ps F H ss os as
  | _, [], _, _, _, h, _, _, _ => h
  | _, o :: os, _, 0, _, h, e, _, _ => by
    cases h with
    | no q => exact .no q
    | cons h q => simp at e; subst e; cases h; exact .no q
  | _, o :: os, _, i + 1, _, h, e, o', e' => by
    cases h with
    | no q => exact .no (Slots.unset q (by simpa using e) (o' := o') (by simpa using e'))
    | cons h q => exact .cons h (Slots.unset q (by simpa using e) (o' := o') (by simpa using e'))
theorem Ok.unset {i : Nat} {o : Option V} (k : Ok K B ps ts T (σ.set i o) C F H) (h : C.G[i]? = some .any) : Ok K B ps ts T σ C F H := by
  obtain ⟨es, ls, as, bs, h1, h0, h2, h3, h4⟩ := k.sl
  have hi : i < σ.length := by
    have := (List.getElem?_eq_some_iff.mp h).1
    rw [h3.length] at this
    simpa using this
  exact ⟨k.ff, k.sub, k.keep, k.st, k.own, es, ls, as, bs, h1, h0, h2, h3.unset h (List.getElem?_eq_getElem hi), h4⟩
theorem Ok.unwipe : ∀ {vs : List Nat}, Ok K B ps ts T (L2.wipe σ vs) C F H → (∀ v ∈ vs, C.G[v]? = some .any) → Ok K B ps ts T σ C F H
  | [], k, _ => k
  | v :: vs, k, h => Ok.unwipe (vs := vs) (k.unset (h v (List.mem_cons_self ..))) fun u m => h u (List.mem_cons_of_mem _ m)
theorem wipeC_len {C : Cn} : ∀ {vs : List Nat}, (C.wipe vs).G.length = C.G.length
  | [] => rfl
  | v :: vs => by
    show ((C.wipe vs).G.set v .any).length = _
    rw [List.length_set, wipeC_len]
theorem wipeC_any {C : Cn} : ∀ {vs : List Nat}, (∀ v ∈ vs, v < C.G.length) → ∀ v ∈ vs, (C.wipe vs).G[v]? = some .any
  | v :: vs, h, u, m => by
    show ((C.wipe vs).G.set v .any)[u]? = _
    have hv : v < (C.wipe vs).G.length := by rw [wipeC_len]; exact h v (List.mem_cons_self ..)
    by_cases e : u = v
    · subst e; rw [List.getElem?_set_self hv]
    · rw [List.getElem?_set_ne (Ne.symm e)]
      exact wipeC_any (fun w m => h w (List.mem_cons_of_mem _ m)) u ((List.mem_cons.mp m).resolve_left e)
end
/-- the context of a comprehension's block -/
abbrev Sx.blk (S : Sx) (scope : Scope) : Sx := { S with scope := relS scope S.scope, fn := fun x => scope.names.lookup x == some .cell }
theorem fam_blk {S : Sx} {X : Cx} (hX : Fam S X) {s : Shared} {H : Hp} {scope : Scope} {C : Addr} {cl : List (Str × Addr)} {fp : List Addr} : Fam (S.blk scope) (X.blk s H scope (compEnvC scope cl C X.env) fp) := by
  obtain ⟨rfl, hc, _⟩ := hX
  exact ⟨rfl, hc, PassesOwn.never⟩
structure ZTs (S : Sx) (B : Bs) (C : Cn) (ifs : List Expr) (b : Bool) (C' : Cn) : Prop where
  run : ∀ X, Fam S X → TJ S.K B C (wpTs X ifs) b C'
instance (S : Sx) (B : Bs) (C : Cn) (ifs : List Expr) (b : Bool) (C' : Cn) : CoeFun (ZTs S B C ifs b C') (fun _ => ∀ X, Fam S X → TJ S.K B C (wpTs X ifs) b C') := ⟨ZTs.run⟩
/-- the elements that are kept -/
def coll {α : Type} (keep : Nat → Bool) (el : Nat → α) : Nat → List α
  | 0 => []
  | n + 1 => if keep n then coll keep el n ++ [el n] else coll keep el n
theorem coll_len {α : Type} {keep : Nat → Bool} {el : Nat → α} : ∀ {n : Nat}, (coll keep el n).length ≤ n
  | 0 => Nat.le_refl _
  | n + 1 => by
    have := coll_len (keep := keep) (el := el) (n := n)
    unfold coll
    split
    · rw [List.length_append, List.length_singleton]; omega
    · omega
theorem coll_map {α β : Type} {keep : Nat → Bool} {el : Nat → α} {f : α → β} : ∀ {n : Nat}, coll keep (fun i => f (el i)) n = (coll keep el n).map f
  | 0 => rfl
  | n + 1 => by
    unfold coll
    rw [coll_map]
    split
    · simp
    · rfl
section
variable {S : Sx} {B : Bs} {C C1 C2 C3 : Cn} {e a b c tg it elt : Expr} {es ifs : List Expr} {s sa sb r : Sh} {ss : List Sh} {pos p p1 p2 tpos : Pos} {E : ZEnds} {x : Str} {i j n : Nat} {d : PyData} {ds : List PyData} {item : Nat → PyData}
theorem zts_nil : ZTs S B C [] true C := .mk fun X hX ps ts T σ F H k Q q => to_ts pts_nil (q F H k)
theorem zts_one {t : Bool} (h : ZT S B C c t C1) : ZTs S B C [c] t C1 := .mk fun X hX ps ts T σ F H k Q q => to_ts (pts_one pt_wp) (h X hX ps ts T σ F H k Q q)
theorem lc_core' {K : PySem.W.Frag} {wi : TI} {g : TG} {tt : TT} {te : TE} {vs us : List Nat} (hi : IJ K B C wi n item C1) (D : Nat → Cn) (h0 : D 0 = C1.wipe vs) (keep : Nat → Bool) (el : Nat → Sh)
    (hb : ∀ i, i < n → ∃ C2 C3, (∀ ps ts T σ v F H, Ok K B ps ts T σ (D i) F H → Rp K F v (item i) → ∀ Q : L2.St → Hp → Prop, (∀ σ' F' H', Agree us σ σ' → Same F F' → Ok K B ps ts T σ' C2 F' H' → Q σ' H') → g v σ H Q) ∧ TJ K B C2 tt (keep i) C3 ∧
      (keep i = true → ∃ C4, EJ K B C3 te (el i) C4 ∧ C4.wipe vs = D (i + 1)) ∧ (keep i = false → C3.wipe vs = D (i + 1)))
    (hu : ∀ u ∈ us, u ∈ vs) (hv : ∀ v ∈ vs, v < C1.G.length) (hG : ∀ i, (D i).G.length = C1.G.length) (hn : n ≤ 1000000) (hD : ∃ C' : Cn, D n = C'.wipe vs) : EJ K B C (tLc wi g tt te vs) (.ls (coll keep el n)) (D n) := by
  intro ps ts T σ F H k Q q
  refine hi ps ts T σ F H k _ fun J ws ds F1 H1 hl k1 turn => fun Dl hDl => ?_
  have k2 : Ok K B ps (.ref Dl :: (ws ++ ts)) (.ls [] :: (ds.map Sh.dat ++ T)) (wipe σ vs) (D 0) F1 (upd H1 Dl (.lst [])) := by
    rw [h0]
    refine (k1.wipe vs).mine (vs := []) (ss := []) hDl rfl fun as q => ?_
    cases q
    exact .ls (k1.fresh hDl).1 upd_same .nil
  refine ⟨fun i m H' => m + i = n ∧ ∃ F', Ok K B ps (.ref Dl :: (ws ++ ts)) (.ls (coll keep el i) :: (ds.map Sh.dat ++ T)) (wipe σ vs) (D i) F' H', ⟨n, rfl, F1, k2⟩, ?_⟩
  rintro i m H' ⟨em, F', k'⟩
  obtain ⟨t1, t2⟩ := turn i _ _ _ _ _ _ _ k' (k'.pop.splitD hl)
  by_cases hin : i < n
  · obtain ⟨g1, g2⟩ := t1 hin
    obtain ⟨C2, C3, b1, b2, b3, b4⟩ := hb i hin
    refine .inr ⟨g1, fun H2 => ∃ F'', Ok K B ps (.ref Dl :: (ws ++ ts)) (.ls (coll keep el (i + 1)) :: (ds.map Sh.dat ++ T)) (wipe σ vs) (D (i + 1)) F'' H2, fun H2 ⟨F'', k''⟩ => ⟨m - 1, by omega, by omega, F'', k''⟩, fun x H3 hy => ?_⟩
    obtain ⟨F3, k3⟩ := g2 x H3 hy
    refine b1 ps _ _ _ x F3 H3 k3.pop k3.top _ fun σ4 F4 H4 a4 s4 k4 => ?_
    have ew : wipe σ4 vs = wipe σ vs := by
      have e := a4.wipe hu
      rw [wipe_wipe] at e
      exact e
    refine ⟨ew, b2 ps _ _ σ4 F4 H4 k4 _ fun F5 H5 k5 => ?_⟩
    cases hk : keep i with
    | true =>
      rw [if_pos rfl]
      obtain ⟨C4, c1, c2⟩ := b3 hk
      refine c1 ps _ _ σ4 F5 H5 k5 _ fun y F6 H6 k6 => ?_
      obtain ⟨acc, e1, e2, k7⟩ := k6.snoc
      refine ⟨acc, e1, ?_, F6, ?_⟩
      · rw [e2]
        have := coll_len (keep := keep) (el := el) (n := i)
        exact Nat.lt_of_le_of_lt (show (coll keep el i).length ≤ 1000000 by omega) (by decide)
      · have k8 := k7.wipe vs
        rw [ew, c2] at k8
        rw [coll, if_pos hk]
        exact k8
    | false =>
      rw [if_neg nofun]
      have k8 := k5.wipe vs
      rw [ew, b4 hk] at k8
      refine ⟨F5, ?_⟩
      rw [coll, if_neg (by rw [hk]; exact nofun)]
      exact k8
  · have e : i = n := by omega
    subst e
    refine .inl ⟨t2 (Nat.le_refl _), q _ F' H' ?_⟩
    have k9 := k'.under hl
    refine k9.unwipe fun v m => ?_
    obtain ⟨C', e⟩ := hD
    have hG' := hG i
    rw [e] at hG' ⊢
    rw [wipeC_len] at hG'
    exact wipeC_any (fun w mw => by rw [hG']; exact hv w mw) v m
/-- a comprehension, as what it makes -/
def lcG (X : Cx) (tg : Expr) (scope : Scope) : TG := fun v σ H Q => ∀ (s : Shared) (H' : Hp) (Ca : Addr) (cl : List (Str × Addr)) (fp : List Addr), wpG (X.blk s H' scope (compEnvC scope cl Ca X.env) fp) tg v σ H Q
def lcTT (X : Cx) (ifs : List Expr) (scope : Scope) : TT := fun σ H Q => ∀ (s : Shared) (H' : Hp) (Ca : Addr) (cl : List (Str × Addr)) (fp : List Addr), wpTs (X.blk s H' scope (compEnvC scope cl Ca X.env) fp) ifs σ H Q
def lcTE (X : Cx) (elt : Expr) (scope : Scope) : TE := fun σ H Q => ∀ (s : Shared) (H' : Hp) (Ca : Addr) (cl : List (Str × Addr)) (fp : List Addr), wpE (X.blk s H' scope (compEnvC scope cl Ca X.env) fp) elt σ H Q
def lcT (X : Cx) (tg it : Expr) (ifs : List Expr) (elt : Expr) (scope : Scope) (own : List (Str × Nat)) : TE :=
  tLc (wpI X tg it) (lcG X tg scope) (lcTT X ifs scope) (lcTE X elt scope) (own.map (·.2))
structure ZC (S : Sx) (B : Bs) (C : Cn) (tg it : Expr) (ifs : List Expr) (elt : Expr) (scope : Scope) (own : List (Str × Nat)) (s : Sh) (C' : Cn) : Prop where
  run : ∀ X, Fam S X → EJ S.K B C (lcT X tg it ifs elt scope own) s C'
instance (S : Sx) (B : Bs) (C : Cn) (tg it : Expr) (ifs : List Expr) (elt : Expr) (scope : Scope) (own : List (Str × Nat)) (s : Sh) (C' : Cn) : CoeFun (ZC S B C tg it ifs elt scope own s C') (fun _ => ∀ X, Fam S X → EJ S.K B C (lcT X tg it ifs elt scope own) s C') := ⟨ZC.run⟩
theorem zc_lc {scope : Scope} {us : List Nat} (own : List (Str × Nat)) (hi : ZI S B C tg it n item C1) (D : Nat → Cn) (h0 : D 0 = C1.wipe (own.map (·.2))) (keep : Nat → Bool) (el : Nat → Sh)
    (hb : ∀ i, i < n → ∃ C2 C3, ZG' (S.blk scope) B (D i) tg (item i) us C2 ∧ ZTs (S.blk scope) B C2 ifs (keep i) C3 ∧ (keep i = true → ∃ C4, ZE (S.blk scope) B C3 elt (el i) C4 ∧ C4.wipe (own.map (·.2)) = D (i + 1)) ∧ (keep i = false → C3.wipe (own.map (·.2)) = D (i + 1)))
    (hG : ∀ i, (D i).G.length = C1.G.length) (hn : n ≤ 1000000) (hD : ∃ C' : Cn, D n = C'.wipe (own.map (·.2))) (hu : ∀ u ∈ us, u ∈ own.map (·.2) := by decide) (hv : (own.map (·.2)).all (fun v => Nat.ble (v + 1) C1.G.length) = true := by rfl) : ZC S B C tg it ifs elt scope own (.ls (coll keep el n)) (D n) := by
  refine .mk ?_
  intro X hX ps ts T σ F H k Q q
  refine lc_core' (us := us) (hi X hX) D h0 keep el (fun i hin => ?_) hu (fun v m => Nat.le_of_ble_eq_true (List.all_eq_true.mp hv v m)) hG hn hD ps ts T σ F H k Q q
  obtain ⟨C2, C3, b1, b2, b3, b4⟩ := hb i hin
  refine ⟨C2, C3, fun ps ts T σ v F H k r Q q s H' Ca cl fp => b1 _ (fam_blk hX) ps ts T σ v F H k r Q q, fun ps ts T σ F H k Q q s H' Ca cl fp => b2 _ (fam_blk hX) ps ts T σ F H k Q q, fun hk => ?_, b4⟩
  obtain ⟨C4, c1, c2⟩ := b3 hk
  exact ⟨C4, fun ps ts T σ F H k Q q s H' Ca cl fp => c1 _ (fam_blk hX) ps ts T σ F H k Q q, c2⟩
theorem ze_comp {scope : Scope} {own : List (Str × Nat)} (h : ZC S B C tg it ifs elt scope own s C1) (hN : S.N.Nodup) (ok : blkC S.N S.scope scope own = true := by kernel_rfl)
    (hs : ∀ env x, foldedSetIterable it env x = pure x := by intro _ _; rfl) : ZE S B C (.ListComp elt [⟨tg, it, ifs, 0⟩] scope pos) s C1 := by
  refine .mk ?_
  intro X hX ps ts T σ F H k Q q
  have h' := h X hX
  obtain ⟨rfl, hc, _⟩ := hX
  exact to_e (pe_lc (wi := wpI X tg it) (g := lcG X tg scope) (tt := lcTT X ifs scope) (te := lcTE X elt scope) (own := own) hc hN pi_wp (blkOk_by ok) (fun s H' Ca cl fp => ⟨fun pins s1 σ H v u Q I r h => h s H' Ca cl fp pins s1 u I r⟩) (fun s H' Ca cl fp => ⟨fun pins s1 σ H Q I h => h s H' Ca cl fp pins s1 I⟩) (fun s H' Ca cl fp => ⟨fun pins s1 σ H Q I h => h s H' Ca cl fp pins s1 I⟩) (hs X.env)) (h' ps ts T σ F H k Q q)
/-- name = [..] on one line, the name a local of the def alone -/
theorem zs_setC {rest : List Stmt} {scope : Scope} {own : List (Str × Nat)} {y : Str} {py spos : Pos} (i : Nat) (h : ZC S B C tg it ifs elt scope own s C1) (hk : ZS S B (C1.set i s) rest E) (hN : S.N.Nodup) (hl : i < C1.G.length := by exact Nat.le_of_ble_eq_true rfl) (hy : S.N[i]? = some y := by rfl) (hyl : S.scope.names.lookup y = some .local := by rfl)
    (hki : S.scope.kind = .function := by rfl) (hline : (py.line == pos.line) = true := by rfl) (hany : (scope.names.any fun (n, k) => n == y && (k == .local || k == .cell)) = false := by decide +kernel) (ok : blkC S.N S.scope scope own = true := by kernel_rfl)
    (hs : ∀ env x, foldedSetIterable it env x = pure x := by intro _ _; rfl) : ZS S B C (.Assign [.Name y py] (.ListComp elt [⟨tg, it, ifs, 0⟩] scope pos) spos :: rest) E := zs_cons (by
  intro X hX ps ts T σ F H D k q
  have h' := h X hX
  obtain ⟨rfl, hc, _⟩ := hX
  refine to_s (ps_setLc (wi := wpI X tg it) (g := lcG X tg scope) (tt := lcTT X ifs scope) (te := lcTE X elt scope) (i := i) (own := own) hc hN hy hyl (sw_true hki hyl hline hany) pi_wp (blkOk_by ok) (fun s H' Ca cl fp => ⟨fun pins s1 σ H v u Q I r h => h s H' Ca cl fp pins s1 u I r⟩) (fun s H' Ca cl fp => ⟨fun pins s1 σ H Q I h => h s H' Ca cl fp pins s1 I⟩) (fun s H' Ca cl fp => ⟨fun pins s1 σ H Q I h => h s H' Ca cl fp pins s1 I⟩) (hs X.env)) ?_
  exact h' ps ts T σ F H k _ fun v F' H' k' => q.nx [] _ _ F' H' hk (by simpa using k'.store hl))
theorem zc_frz {scope : Scope} {own : List (Str × Nat)} (h : ZC S B C tg it ifs elt scope own s C1) (hd : s.data = some d) : ZC S B C tg it ifs elt scope own (.dat d) C1 := .mk fun X hX ps ts T σ F H k Q q => h X hX ps ts T σ F H k Q fun v F' H' k' =>
  let ⟨F2, k2⟩ := k'.freeze hd
  q v F2 H' k2
theorem ze_frz (h : ZE S B C e s C1) (hd : s.data = some d) : ZE S B C e (.dat d) C1 := .mk fun X hX ps ts T σ F H k Q q => h X hX ps ts T σ F H k Q fun v F' H' k' =>
  let ⟨F2, k2⟩ := k'.freeze hd
  q v F2 H' k2
theorem zs_frz {ss : List Stmt} (j : Nat) (hj : C.L[j]? = some s) (hd : s.data = some d) (h : ZS S B ⟨C.P, C.L.set j (.dat d), C.G⟩ ss E) : ZS S B C ss E := .mk fun X hX ps ts T σ F H D k q =>
  let ⟨F2, k2⟩ := k.freezeL hj hd
  h X hX ps ts T σ F2 H D k2 q
/-- a name for what will not change any more -/
theorem Ok.locD {K : PySem.W.Frag} {ps : List V × List V} {ts : List V} {T : List Sh} {σ : L2.St} {F H : Hp} {v : V} (k : Ok K B ps ts T σ C F H) (hj : C.L[j]? = some (.dat d)) (h : ps.2[j]? = some v) : Rp K F v d := by
  obtain ⟨es, ls, as, bs, h1, h0, h2, h3, h4⟩ := k.sl
  obtain ⟨w, cs, pre, post, g1, g2, _⟩ := h0.at hj
  obtain rfl : w = v := Option.some.inj (g1.symm.trans h)
  cases g2 with | dat r => exact r
theorem ze_varD (i : Nat) (hG : C.G[i]? = some (.loc j) := by rfl) (hL : C.L[j]? = some (.dat d) := by rfl) (hN : S.N[i]? = some x := by rfl) (hv : Vis S.scope x := by first | exact Or.inl rfl | exact Or.inr (Or.inl rfl) | exact Or.inr (Or.inr rfl)) (hd : (x == ("__debug__" : Str)) = false := by decide)
    (hcd : (x == ("__classdict__" : Str)) = false := by decide) : ZE S B C (.Name x pos) (.dat d) C := by
  refine .mk ?_
  rintro X ⟨rfl, _, _⟩ ps ts T σ F H k Q q
  obtain ⟨v, e, r⟩ := k.slotL hG
  exact to_e (pe_var hN hv hd hcd) ⟨v, e, q v F H (k.push (k.locD hL r))⟩
theorem zi_zip {elts : List Expr} {kk : Nat} {xs ys : List PyData} (h : ZA S B C [a, b] [.dat (.list xs), .dat (.list ys)] C1) (hm : S.mg "zip" = none) (hg : S.scope.names.lookup ("zip" : Str) = some .globalImplicit := by rfl) (hs : ∀ env, starEach [a, b] env = (false, eval a env) :: starEach [b] env := by intro _; rfl)
    (hpl : ∀ env, (backTo pos (starEach [b] env)).any (·.1) = false := by intro _; rfl) : ZI S B C (.Tuple elts kk tpos) (.Call (.Name "zip" p) [a, b] [] pos) (min xs.length ys.length) (fun i => .tuple [xs.getD i .none, ys.getD i .none]) C1 := .mk fun X hX ps ts T σ F H k R q => by
  have h' := h X hX
  obtain ⟨rfl, _, _⟩ := hX
  exact to_i (pi_zip hg hm pa_wp (hs X.env) (hpl X.env)) (ij_zip h' ps ts T σ F H k R q)
theorem zi_enum {elts : List Expr} {kk : Nat} {xs : List PyData} (h : ZA S B C [a] [.dat (.list xs)] C1) (hm : S.mg "enumerate" = none) (hg : S.scope.names.lookup ("enumerate" : Str) = some .globalImplicit := by rfl) (hs : ∀ env, starEach [a] env = [(false, eval a env)] := by intro _; rfl) :
    ZI S B C (.Tuple elts kk tpos) (.Call (.Name "enumerate" p) [a] [] pos) xs.length (fun i => .tuple [enc (i : Int), xs.getD i .none]) C1 := .mk fun X hX ps ts T σ F H k R q => by
  have h' := h X hX
  obtain ⟨rfl, _, _⟩ := hX
  exact to_i (pi_enum hg hm pa_wp (hs X.env)) (ij_enum h' ps ts T σ F H k R q)
end
end Z

/-! ZF: operators and built-ins by data. -/
namespace Z
open PySem L2
open Enc (enc)
section
variable {K : PySem.W.Frag} {B : Bs} {C C1 C2 C3 : Cn} {i j : Int} {d : PyData}
theorem rp_int {F : Hp} {v : V} {i : Int} (h : Rp K F v (.int i)) : v = .int i := by cases h; rfl
theorem rp_bl {F : Hp} {v : V} {b : Bool} (h : Rp K F v (.bool b)) : v = .bl b := by cases h; rfl
theorem rp_str {F : Hp} {v : V} {x : Str} (h : Rp K F v (.str x)) : v = .str x := by cases h; rfl
theorem rp_non {F : Hp} {v : V} (h : Rp K F v .none) : v = .non := by cases h; rfl
theorem r2_I0 {g : Int → Int → V} (h : ∀ F, Rp K F (g i j) d) : R2J K B C (rI0 g) (Sh.of i) (Sh.of j) (.dat d) C := fun ps ts T σ F H x y k Q q => by
  cases rp_int k.top
  cases rp_int k.pop.top
  exact ⟨i, j, rfl, rfl, q _ F H (k.pop.pop.push (h F))⟩
theorem r2_I {P : Int → Int → Prop} {g : Int → Int → V} (hp : P i j) (h : ∀ F, Rp K F (g i j) d) : R2J K B C (rI P g) (Sh.of i) (Sh.of j) (.dat d) C := fun ps ts T σ F H x y k Q q => by
  cases rp_int k.top
  cases rp_int k.pop.top
  exact ⟨i, j, rfl, rfl, hp, q _ F H (k.pop.pop.push (h F))⟩
end
section
variable {S : Sx} {B : Bs} {C C1 C2 C3 : Cn} {e a b c tg it elt : Expr} {es ifs : List Expr} {s sa sb r : Sh} {ss : List Sh} {pos p p1 p2 tpos : Pos} {E : ZEnds} {x : Str} {i j : Int} {d : PyData} {ds : List PyData}
theorem ze_add (ha : ZE S B C a (Sh.of i) C1) (hb : ZE S B C1 b (Sh.of j) C2) : ZE S B C (.BinOp a .Add b pos) (Sh.of (i + j)) C2 := ze_op (fun _ _ => op_add) ha hb (r2_I0 fun _ => .int _)
theorem ze_sub (ha : ZE S B C a (Sh.of i) C1) (hb : ZE S B C1 b (Sh.of j) C2) : ZE S B C (.BinOp a .Sub b pos) (Sh.of (i - j)) C2 := ze_op (fun _ _ => op_sub) ha hb (r2_I0 fun _ => .int _)
/-- the sizes of a product -/
def MulOk (i j : Int) : Prop := CMul i j ∨ CMulW i j
theorem op_mulZ {X : Cx} : OpR X (binaryOp .Mult) (rI MulOk fun i j => .int (i * j)) := by
  intro pins s σ H x y v u Q I rx ry h
  obtain ⟨i, j, e1, e2, hc, q⟩ := h
  rcases hc with hc | hc
  · exact op_mul pins s σ H x y v u Q I rx ry ⟨i, j, e1, e2, hc, q⟩
  · exact op_mulW pins s σ H x y v u Q I rx ry ⟨i, j, e1, e2, hc, q⟩
theorem ze_mul (ha : ZE S B C a (Sh.of i) C1) (hb : ZE S B C1 b (Sh.of j) C2) (h : MulOk i j) : ZE S B C (.BinOp a .Mult b pos) (Sh.of (i * j)) C2 := ze_op (fun _ _ => op_mulZ) ha hb (r2_I h fun _ => .int _)
theorem ze_mod (ha : ZE S B C a (Sh.of i) C1) (hb : ZE S B C1 b (Sh.of j) C2) (h : 0 < j) : ZE S B C (.BinOp a .Mod b pos) (Sh.of (i % j)) C2 := ze_op (fun _ _ => op_mod) ha hb (r2_I h fun _ => .int _)
theorem ze_modN (ha : ZE S B C a (Sh.of i) C1) (hb : ZE S B C1 b (Sh.of j) C2) (h : j ≠ 0) : ZE S B C (.BinOp a .Mod b pos) (Sh.of (i.fmod j)) C2 := ze_op (fun _ _ => op_modN) ha hb (r2_I h fun _ => .int _)
/-- a divisor above nought, of at most nine thousand bits -/
theorem ze_div (ha : ZE S B C a (Sh.of i) C1) (hb : ZE S B C1 b (Sh.of j) C2) (h : CDivW i j) : ZE S B C (.BinOp a .FloorDiv b pos) (Sh.of (i / j)) C2 := ze_op (fun _ _ => op_fdivW) ha hb (r2_I h fun _ => .int _)
theorem div_small {i j : Int} (h : 0 < j) (h2 : j < 1000000000000000000000) : CDivW i j := wide_div h (b := 70) (by omega) (by decide) (by decide)
theorem ze_neg (ha : ZE S B C a (Sh.of i) C1) : ZE S B C (.UnaryOp .USub a pos) (Sh.of (-i)) C1 := ze_un (fun _ _ => un_neg) ha fun ps ts T σ F H x k Q q => by
  cases rp_int k.top
  exact ⟨i, rfl, q _ F H (k.pop.push (.int _))⟩
theorem ze_lt (ha : ZE S B C a (Sh.of i) C1) (hb : ZE S B C1 b (Sh.of j) C2) (hm : behindInMarks .Lt b = false := by rfl) : ZE S B C (.Compare a [.Lt] [b] pos) (Sh.of (decide (i < j))) C2 := ze_cmp (fun _ _ => op_lt) ha hb (r2_I0 fun _ => .bl _) hm
theorem ze_le (ha : ZE S B C a (Sh.of i) C1) (hb : ZE S B C1 b (Sh.of j) C2) (hm : behindInMarks .LtE b = false := by rfl) : ZE S B C (.Compare a [.LtE] [b] pos) (Sh.of (decide (i ≤ j))) C2 := ze_cmp (fun _ _ => op_le) ha hb (r2_I0 fun _ => .bl _) hm
theorem ze_gt (ha : ZE S B C a (Sh.of i) C1) (hb : ZE S B C1 b (Sh.of j) C2) (hm : behindInMarks .Gt b = false := by rfl) : ZE S B C (.Compare a [.Gt] [b] pos) (Sh.of (decide (j < i))) C2 := ze_cmp (fun _ _ => op_gt) ha hb (r2_I0 fun _ => .bl _) hm
theorem ze_ge (ha : ZE S B C a (Sh.of i) C1) (hb : ZE S B C1 b (Sh.of j) C2) (hm : behindInMarks .GtE b = false := by rfl) : ZE S B C (.Compare a [.GtE] [b] pos) (Sh.of (decide (j ≤ i))) C2 := ze_cmp (fun _ _ => op_ge) ha hb (r2_I0 fun _ => .bl _) hm
theorem r2_eqI {K : PySem.W.Frag} : R2J K B C rEq (Sh.of i) (Sh.of j) (Sh.of (decide (i = j))) C := fun ps ts T σ F H x y k Q q => by
  cases rp_int k.top
  cases rp_int k.pop.top
  refine ⟨rfl, q _ F H (k.pop.pop.push ?_)⟩
  have e : decide ((V.int i) = V.int j) = decide (i = j) := by by_cases h : i = j <;> simp [h]
  rw [e]
  exact .bl _
theorem r2_neI {K : PySem.W.Frag} : R2J K B C rNe (Sh.of i) (Sh.of j) (Sh.of (!decide (i = j))) C := fun ps ts T σ F H x y k Q q => by
  cases rp_int k.top
  cases rp_int k.pop.top
  refine ⟨rfl, q _ F H (k.pop.pop.push ?_)⟩
  have e : decide ((V.int i) = V.int j) = decide (i = j) := by by_cases h : i = j <;> simp [h]
  rw [e]
  exact .bl _
theorem ze_eqI (ha : ZE S B C a (Sh.of i) C1) (hb : ZE S B C1 b (Sh.of j) C2) (hm : behindInMarks .Eq b = false := by rfl) : ZE S B C (.Compare a [.Eq] [b] pos) (Sh.of (decide (i = j))) C2 := ze_cmp (fun _ _ => op_eq) ha hb r2_eqI hm
theorem ze_neI (ha : ZE S B C a (Sh.of i) C1) (hb : ZE S B C1 b (Sh.of j) C2) (hm : behindInMarks .NotEq b = false := by rfl) : ZE S B C (.Compare a [.NotEq] [b] pos) (Sh.of (!decide (i = j))) C2 := ze_cmp (fun _ _ => op_ne) ha hb r2_neI hm
theorem r2_eqS {K : PySem.W.Frag} {x y : Str} : R2J K B C rEq (Sh.of x) (Sh.of y) (Sh.of (decide (x = y))) C := fun ps ts T σ F H u v k Q q => by
  cases rp_str k.top
  cases rp_str k.pop.top
  refine ⟨rfl, q _ F H (k.pop.pop.push ?_)⟩
  have e : decide ((V.str x) = V.str y) = decide (x = y) := by by_cases h : x = y <;> simp [h]
  rw [e]
  exact .bl _
theorem r2_neS {K : PySem.W.Frag} {x y : Str} : R2J K B C rNe (Sh.of x) (Sh.of y) (Sh.of (!decide (x = y))) C := fun ps ts T σ F H u v k Q q => by
  cases rp_str k.top
  cases rp_str k.pop.top
  refine ⟨rfl, q _ F H (k.pop.pop.push ?_)⟩
  have e : decide ((V.str x) = V.str y) = decide (x = y) := by by_cases h : x = y <;> simp [h]
  rw [e]
  exact .bl _
theorem ze_eqS {x y : Str} (ha : ZE S B C a (Sh.of x) C1) (hb : ZE S B C1 b (Sh.of y) C2) (hm : behindInMarks .Eq b = false := by rfl) : ZE S B C (.Compare a [.Eq] [b] pos) (Sh.of (decide (x = y))) C2 := ze_cmp (fun _ _ => op_eq) ha hb r2_eqS hm
theorem ze_neS {x y : Str} (ha : ZE S B C a (Sh.of x) C1) (hb : ZE S B C1 b (Sh.of y) C2) (hm : behindInMarks .NotEq b = false := by rfl) : ZE S B C (.Compare a [.NotEq] [b] pos) (Sh.of (!decide (x = y))) C2 := ze_cmp (fun _ _ => op_ne) ha hb r2_neS hm
/-- an expression that gives True or False, as a test -/
theorem zt_val {t : Bool} (h : ZE S B C e (Sh.of t) C1) (he : ∀ env whole, isTrue e env whole = (do let v ← whole; standAt e.pos; holding [v] (truthy v)) := by intro _ _; rfl) : ZT S B C e t C1 := .mk fun X hX ps ts T σ F H k Q q =>
  to_t (pt_val pe_wp (he X.env)) (h X hX ps ts T σ F H k _ fun v F' H' k' => by
    cases rp_bl k'.top
    exact ⟨t, rfl, q F' H' k'.pop⟩)
/-- and, or, not -/
theorem zw_pt {t : Bool} (h : ZW S B C e t C1) : ZT S B C e t C1 := .mk fun X hX ps ts T σ F H k Q q => to_t (pw_wp.pt) (h X hX ps ts T σ F H k Q q)
theorem zt_not {t : Bool} (h : ZT S B C e t C1) : ZT S B C (.UnaryOp .Not e pos) (!t) C1 := .mk fun X hX ps ts T σ F H k Q q => to_t (pt_not pt_wp) (h X hX ps ts T σ F H k _ fun F' H' k' => q F' H' k')
theorem zw_and1 {t : Bool} (h : ZT S B C e t C1) : ZW S B C (.BoolOp .And [e] pos) t C1 := .mk fun X hX ps ts T σ F H k Q q => to_w (pw_and1 pt_wp) (h X hX ps ts T σ F H k Q q)
theorem zw_or1 {t : Bool} (h : ZT S B C e t C1) : ZW S B C (.BoolOp .Or [e] pos) t C1 := .mk fun X hX ps ts T σ F H k Q q => to_w (pw_or1 pt_wp) (h X hX ps ts T σ F H k Q q)
theorem zw_and {t u : Bool} (h : ZT S B C e t C) (hr : t = true → ZW S B C (.BoolOp .And (a :: es) pos) u C) : ZW S B C (.BoolOp .And (e :: a :: es) pos) (t && u) C := .mk fun X hX ps ts T σ F H k Q q =>
  to_w (pw_and pt_wp pw_wp) (h X hX ps ts T σ F H k _ fun F' H' k' => by
    cases t with
    | true => rw [if_pos rfl]; exact hr rfl X hX ps ts T σ F' H' k' Q q
    | false => rw [if_neg nofun]; exact q F' H' k')
theorem zw_or {t u : Bool} (h : ZT S B C e t C) (hr : t = false → ZW S B C (.BoolOp .Or (a :: es) pos) u C) : ZW S B C (.BoolOp .Or (e :: a :: es) pos) (t || u) C := .mk fun X hX ps ts T σ F H k Q q =>
  to_w (pw_or pt_wp pw_wp) (h X hX ps ts T σ F H k _ fun F' H' k' => by
    cases t with
    | true => rw [if_pos rfl]; exact q F' H' k'
    | false => rw [if_neg nofun]; exact hr rfl X hX ps ts T σ F' H' k' Q q)
theorem ze_not {t : Bool} (h : ZE S B C e (Sh.of t) C1) : ZE S B C (.UnaryOp .Not e pos) (Sh.of (!t)) C1 := .mk fun X hX ps ts T σ F H k Q q => to_e (pe_not pe_wp) (h X hX ps ts T σ F H k _ fun v F' H' k' => by
    cases rp_bl k'.top
    exact ⟨t, rfl, q _ F' H' (k'.pop.push (.bl _))⟩)
theorem ze_one {op} (h : ZE S B C e s C1) : ZE S B C (.BoolOp op [e] pos) s C1 := .mk fun X hX ps ts T σ F H k Q q => to_e (pe_one pe_wp) (h X hX ps ts T σ F H k Q q)
theorem ze_and {t u : Bool} (h : ZE S B C e (Sh.of t) C) (hr : t = true → ZE S B C (.BoolOp .And (a :: es) pos) (Sh.of u) C) : ZE S B C (.BoolOp .And (e :: a :: es) pos) (Sh.of (t && u)) C := .mk fun X hX ps ts T σ F H k Q q =>
  to_e (pe_and pe_wp pe_wp) (h X hX ps ts T σ F H k _ fun v F' H' k' => by
    cases rp_bl k'.top
    refine ⟨t, rfl, ?_⟩
    cases t with
    | true => rw [if_pos rfl]; exact hr rfl X hX ps ts T σ F' H' k'.pop Q q
    | false => rw [if_neg nofun]; exact q _ F' H' (k'.pop.push (.bl _)))
theorem ze_or {t u : Bool} (h : ZE S B C e (Sh.of t) C) (hr : t = false → ZE S B C (.BoolOp .Or (a :: es) pos) (Sh.of u) C) : ZE S B C (.BoolOp .Or (e :: a :: es) pos) (Sh.of (t || u)) C := .mk fun X hX ps ts T σ F H k Q q =>
  to_e (pe_or pe_wp pe_wp) (h X hX ps ts T σ F H k _ fun v F' H' k' => by
    cases rp_bl k'.top
    refine ⟨t, rfl, ?_⟩
    cases t with
    | true => rw [if_pos rfl]; exact q _ F' H' (k'.pop.push (.bl _))
    | false => rw [if_neg nofun]; exact hr rfl X hX ps ts T σ F' H' k'.pop Q q)
theorem ze_ite {t : Bool} (hc : ZT S B C c t C1) (ha : t = true → ZE S B C1 a s C2) (hb : t = false → ZE S B C1 b s C2) : ZE S B C (.IfExp c a b pos) s C2 := .mk fun X hX ps ts T σ F H k Q q =>
  to_e (pe_ifExp pt_wp pe_wp pe_wp) (hc X hX ps ts T σ F H k _ fun F' H' k' => by
    cases t with
    | true => rw [if_pos rfl]; exact ha rfl X hX ps ts T σ F' H' k' Q q
    | false => rw [if_neg nofun]; exact hb rfl X hX ps ts T σ F' H' k' Q q)

theorem zt_lt (ha : ZE S B C a (Sh.of i) C1) (hb : ZE S B C1 b (Sh.of j) C2) (hm : behindInMarks .Lt b = false := by rfl) : ZT S B C (.Compare a [.Lt] [b] pos) (decide (i < j)) C2 := zt_cmp (fun _ _ => op_lt) ha hb (r2_I0 fun _ => .bl _) hm
theorem zt_le (ha : ZE S B C a (Sh.of i) C1) (hb : ZE S B C1 b (Sh.of j) C2) (hm : behindInMarks .LtE b = false := by rfl) : ZT S B C (.Compare a [.LtE] [b] pos) (decide (i ≤ j)) C2 := zt_cmp (fun _ _ => op_le) ha hb (r2_I0 fun _ => .bl _) hm
theorem zt_gt (ha : ZE S B C a (Sh.of i) C1) (hb : ZE S B C1 b (Sh.of j) C2) (hm : behindInMarks .Gt b = false := by rfl) : ZT S B C (.Compare a [.Gt] [b] pos) (decide (j < i)) C2 := zt_cmp (fun _ _ => op_gt) ha hb (r2_I0 fun _ => .bl _) hm
theorem zt_ge (ha : ZE S B C a (Sh.of i) C1) (hb : ZE S B C1 b (Sh.of j) C2) (hm : behindInMarks .GtE b = false := by rfl) : ZT S B C (.Compare a [.GtE] [b] pos) (decide (j ≤ i)) C2 := zt_cmp (fun _ _ => op_ge) ha hb (r2_I0 fun _ => .bl _) hm
theorem zt_eqI (ha : ZE S B C a (Sh.of i) C1) (hb : ZE S B C1 b (Sh.of j) C2) (hm : behindInMarks .Eq b = false := by rfl) : ZT S B C (.Compare a [.Eq] [b] pos) (decide (i = j)) C2 := zt_cmp (fun _ _ => op_eq) ha hb r2_eqI hm
theorem zt_neI (ha : ZE S B C a (Sh.of i) C1) (hb : ZE S B C1 b (Sh.of j) C2) (hm : behindInMarks .NotEq b = false := by rfl) : ZT S B C (.Compare a [.NotEq] [b] pos) (!decide (i = j)) C2 := zt_cmp (fun _ _ => op_ne) ha hb r2_neI hm
theorem zt_eqS {x y : Str} (ha : ZE S B C a (Sh.of x) C1) (hb : ZE S B C1 b (Sh.of y) C2) (hm : behindInMarks .Eq b = false := by rfl) : ZT S B C (.Compare a [.Eq] [b] pos) (decide (x = y)) C2 := zt_cmp (fun _ _ => op_eq) ha hb r2_eqS hm
theorem zt_neS {x y : Str} (ha : ZE S B C a (Sh.of x) C1) (hb : ZE S B C1 b (Sh.of y) C2) (hm : behindInMarks .NotEq b = false := by rfl) : ZT S B C (.Compare a [.NotEq] [b] pos) (!decide (x = y)) C2 := zt_cmp (fun _ _ => op_ne) ha hb r2_neS hm

/-! ### places -/
theorem r2_ixT {K : PySem.W.Frag} (h : atI ds i = some d) : R2J K B C (rIxT K) (.dat (.tuple ds)) (Sh.of i) (.dat d) C := fun ps ts T σ F H x y k Q q => by
  cases rp_int k.top
  cases k.pop.top with
  | @tup p xs _ hs hr =>
    have h' : ∃ v, atI xs i = some v ∧ Rp K F v d := by
      unfold atI at h ⊢
      rw [hr.length]
      cases e : ixN ds.length i with
      | none => rw [e] at h; cases h
      | some n =>
        rw [e] at h
        exact hr.get (i := n) h
    obtain ⟨v, h1, h2⟩ := h'
    exact ⟨p, xs, i, v, rfl, rfl, sqT_mono k.sub hs, h1, q v F H (k.pop.pop.push h2)⟩
theorem r2_ixL {K : PySem.W.Frag} (h : atI ds i = some d) : R2J K B C (rIxL K) (.dat (.list ds)) (Sh.of i) (.dat d) C := fun ps ts T σ F H x y k Q q => by
  cases rp_int k.top
  cases k.pop.top with
  | @lst p xs _ hs hr =>
    have h' : ∃ v, atI xs i = some v ∧ Rp K F v d := by
      unfold atI at h ⊢
      rw [hr.length]
      cases e : ixN ds.length i with
      | none => rw [e] at h; cases h
      | some n =>
        rw [e] at h
        exact hr.get (i := n) h
    obtain ⟨v, h1, h2⟩ := h'
    exact ⟨p, xs, i, v, rfl, rfl, k.sub.seq hs, h1, q v F H (k.pop.pop.push h2)⟩
theorem ze_ixT (ha : ZE S B C a (.dat (.tuple ds)) C1) (hb : ZE S B C1 b (Sh.of i) C2) (h : atI ds i = some d := by rfl) (hs : PlainIx b := by intro _ _; rfl) : ZE S B C (.Subscript a b pos) (.dat d) C2 := .mk fun X hX =>
  (ze_ix (r := rIxT S.K) (fun X hX => by obtain ⟨rfl, _, _⟩ := hX; exact ix_tup) ha hb (r2_ixT h) hs) X hX
theorem ze_ixL (ha : ZE S B C a (.dat (.list ds)) C1) (hb : ZE S B C1 b (Sh.of i) C2) (h : atI ds i = some d) (hs : PlainIx b := by intro _ _; rfl) : ZE S B C (.Subscript a b pos) (.dat d) C2 := .mk fun X hX =>
  (ze_ix (r := rIxL S.K) (fun X hX => by obtain ⟨rfl, _, _⟩ := hX; exact ix_list) ha hb (r2_ixL h) hs) X hX
section
variable {α β γ : Type} [Enc α] [Enc β] [Enc γ]
theorem ze_fst {q : α × β} (ha : ZE S B C a (Sh.of q) C1) {k : Nat} {pp : Pos} : ZE S B C (.Subscript a (.Constant (.int 0) k pp) pos) (Sh.of q.1) C1 := ze_ixT (ds := [enc q.1, enc q.2]) ha ze_int rfl
theorem ze_snd {q : α × β} (ha : ZE S B C a (Sh.of q) C1) {k : Nat} {pp : Pos} : ZE S B C (.Subscript a (.Constant (.int 1) k pp) pos) (Sh.of q.2) C1 := ze_ixT (ds := [enc q.1, enc q.2]) ha ze_int rfl
theorem ze_t3a {q : T3 α β γ} (ha : ZE S B C a (Sh.of q) C1) {k : Nat} {pp : Pos} : ZE S B C (.Subscript a (.Constant (.int 0) k pp) pos) (Sh.of q.a) C1 := ze_ixT (ds := [enc q.a, enc q.b, enc q.c]) ha ze_int rfl
theorem ze_t3b {q : T3 α β γ} (ha : ZE S B C a (Sh.of q) C1) {k : Nat} {pp : Pos} : ZE S B C (.Subscript a (.Constant (.int 1) k pp) pos) (Sh.of q.b) C1 := ze_ixT (ds := [enc q.a, enc q.b, enc q.c]) ha ze_int rfl
theorem ze_t3c {q : T3 α β γ} (ha : ZE S B C a (Sh.of q) C1) {k : Nat} {pp : Pos} : ZE S B C (.Subscript a (.Constant (.int 2) k pp) pos) (Sh.of q.c) C1 := ze_ixT (ds := [enc q.a, enc q.b, enc q.c]) ha ze_int rfl
theorem ze_get {xs : List α} {y : α} (ha : ZE S B C a (Sh.of xs) C1) (hb : ZE S B C1 b (Sh.of i) C2) (h : atI xs i = some y) (hs : PlainIx b := by intro _ _; rfl) : ZE S B C (.Subscript a b pos) (Sh.of y) C2 := by
  refine ze_ixL (ds := xs.map enc) ha hb ?_ hs
  unfold atI at h ⊢
  rw [List.length_map]
  cases e : ixN xs.length i with
  | none => rw [e] at h; cases h
  | some n =>
    rw [e] at h
    show (xs.map enc)[n]? = _
    have h : xs[n]? = some y := h
    rw [List.getElem?_map, h]
    rfl
theorem ze_pair {x1 : Nat} {u : α} {v : β} (ha : ZE S B C a (Sh.of u) C1) (hb : ZE S B C1 b (Sh.of v) C2) (h1 : ∀ env, starEach [a, b] env = (false, eval a env) :: starEach [b] env := by intro _; rfl) (h2 : ∀ env, starEach [b] env = (false, eval b env) :: starEach [] env := by intro _; rfl) : ZE S B C (.Tuple [a, b] x1 pos) (Sh.of (u, v)) C2 :=
  ze_tup (za_cons ha (za_cons hb za_nil h2) h1) ⟨[enc u, enc v], rfl, rfl⟩ (Nat.le_of_ble_eq_true rfl)
theorem ze_trip {x1 : Nat} {u : α} {v : β} {w : γ} (ha : ZE S B C a (Sh.of u) C1) (hb : ZE S B C1 b (Sh.of v) C2) (hc : ZE S B C2 c (Sh.of w) C3) (h1 : ∀ env, starEach [a, b, c] env = (false, eval a env) :: starEach [b, c] env := by intro _; rfl) (h2 : ∀ env, starEach [b, c] env = (false, eval b env) :: starEach [c] env := by intro _; rfl)
    (h3 : ∀ env, starEach [c] env = (false, eval c env) :: starEach [] env := by intro _; rfl) : ZE S B C (.Tuple [a, b, c] x1 pos) (Sh.of (T3.mk u v w)) C3 :=
  ze_tup (za_cons ha (za_cons hb (za_cons hc za_nil h3) h2) h1) ⟨[enc u, enc v, enc w], rfl, rfl⟩ (Nat.le_of_ble_eq_true rfl)
end

/-! ### built-ins -/
theorem ze_callB {id : String} {r : List V → Hp → VK → Prop} (hc : ∀ X, Fam S X → CallR X (.builtin id) r) (hm : S.mg x = none) (hv : bootBuiltins x = some (.builtin id)) (ha : ZA S B C (e :: es) ss C1) (hr : RAJ S.K B C1 r ss s C2) (hg : S.scope.names.lookup x = some .globalImplicit := by rfl)
    (hn : x ≠ "__name__" := by decide) (hdb : (x == ("__debug__" : Str)) = false := by decide) (he : ∀ env, starEach (e :: es) env = (false, eval e env) :: starEach es env := by intro _; rfl) (hpl : ∀ env, (backTo pos (starEach es env)).any (·.1) = false := by intro _; rfl) :
    ZE S B C (.Call (.Name x p) (e :: es) [] pos) s C2 := by
  refine .mk ?_
  intro X hX ps ts T σ F H k Q q
  have hc' := hc X hX
  have ha' := ha X hX
  obtain ⟨rfl, _, _⟩ := hX
  exact to_e (pe_callB hc' hg hm hv pa_wp hn hdb (he X.env) (hpl X.env)) (ej_cb ha' hr ps ts T σ F H k Q q)
theorem ze_callTy {t : String} {r : List V → Hp → VK → Prop} (hc : ∀ X, Fam S X → CallR X (.type t) r) (hm : S.mg x = none) (hv : bootBuiltins x = some (.type t)) (ha : ZA S B C (e :: es) ss C1) (hr : RAJ S.K B C1 r ss s C2) (hg : S.scope.names.lookup x = some .globalImplicit := by rfl)
    (hn : x ≠ "__name__" := by decide) (hdb : (x == ("__debug__" : Str)) = false := by decide) (he : ∀ env, starEach (e :: es) env = (false, eval e env) :: starEach es env := by intro _; rfl) (hpl : ∀ env, (backTo pos (starEach es env)).any (·.1) = false := by intro _; rfl) :
    ZE S B C (.Call (.Name x p) (e :: es) [] pos) s C2 := by
  refine .mk ?_
  intro X hX ps ts T σ F H k Q q
  have hc' := hc X hX
  have ha' := ha X hX
  obtain ⟨rfl, _, _⟩ := hX
  exact to_e (pe_callTy hc' hg hm hv pa_wp hn hdb (he X.env) (hpl X.env)) (ej_cb ha' hr ps ts T σ F H k Q q)
end
end Z

/-! ZG: typed loops, built-ins, names of the text. -/
namespace Z
open PySem L2
open Enc (enc)
/-- a def of the text: as it stands, its binding, its name -/
structure Dfn (K : PySem.W.Frag) (mg : Str → Option Value) (y x : Str) (st : Stmt) (ps : List Str) (f : Addr) (fd : FuncData) : Prop where
  fn : Fun K x x st f fd
  b : Binds K fd ps []
  g : mg y = some (.ref f)
section
variable {K : PySem.W.Frag} {B : Bs} {C C1 C2 C3 : Cn}
theorem ra_len {ds : List PyData} : RAJ K B C (fun xs H Q => ∃ p ys, xs = [.ref p] ∧ (SqL K H p ys ∨ SqT K H p ys) ∧ Q (.int ys.length) H) [.dat (.list ds)] (Sh.of (ds.length : Int)) C := fun ps ts T σ F H vs hl k Q q => by
  match vs, hl with
  | [v], _ =>
    cases k.top with
    | @lst p xs _ hs hr => exact ⟨p, xs, rfl, .inl (k.sub.seq hs), q _ F H (by rw [← hr.length]; exact (k.pop.push (.int _)))⟩
theorem ra_lenT {ds : List PyData} : RAJ K B C (fun xs H Q => ∃ p ys, xs = [.ref p] ∧ (SqL K H p ys ∨ SqT K H p ys) ∧ Q (.int ys.length) H) [.dat (.tuple ds)] (Sh.of (ds.length : Int)) C := fun ps ts T σ F H vs hl k Q q => by
  match vs, hl with
  | [v], _ =>
    cases k.top with
    | @tup p xs _ hs hr => exact ⟨p, xs, rfl, .inr (sqT_mono k.sub hs), q _ F H (by rw [← hr.length]; exact (k.pop.push (.int _)))⟩
/-- of a list that changes -/
theorem ra_lenL {j : Nat} {xs : List Sh} (hj : C.L[j]? = some (.ls xs)) : RAJ K B C (fun xs H Q => ∃ p ys, xs = [.ref p] ∧ (SqL K H p ys ∨ SqT K H p ys) ∧ Q (.int ys.length) H) [.loc j] (Sh.of (xs.length : Int)) C := fun ps ts T σ F H vs hl k Q q => by
  match vs, hl with
  | [v], _ =>
    obtain ⟨es, ls, as, bs, h1, h0, h2, h3, h4⟩ := id k.sl
    cases h2 with
    | cons h2 _ =>
      cases h2 with
      | loc h2 =>
        obtain ⟨w, cs, pre, post, g1, g2, _⟩ := h0.at hj
        obtain rfl : w = v := Option.some.inj (g1.symm.trans h2)
        cases g2 with
        | @ls _ p ys as' f1 f2 f3 => exact ⟨p, ys, rfl, .inl (.inl (.inl f2)), q _ F H (by rw [← f3.length]; exact k.pop.push (.int _))⟩
end
section
variable {S : Sx} {B : Bs} {C C1 C2 C3 : Cn} {e a b c tg it elt : Expr} {es ifs : List Expr} {s sa sb r : Sh} {ss : List Sh} {pos p p1 p2 tpos : Pos} {E : ZEnds} {x : Str} {i j : Int} {d : PyData} {ds : List PyData}
variable {α β γ : Type} [Enc α] [Enc β] [Enc γ]
theorem ze_len {xs : List α} (ha : ZA S B C [a] [Sh.of xs] C1) (hm : S.mg "len" = none) (hg : S.scope.names.lookup ("len" : Str) = some .globalImplicit := by rfl) (he : ∀ env, starEach [a] env = (false, eval a env) :: starEach [] env := by intro _; rfl) (hpl : ∀ env, (backTo pos (starEach [] env)).any (·.1) = false := by intro _; rfl) :
    ZE S B C (.Call (.Name "len" p) [a] [] pos) (Sh.of (xs.length : Int)) C1 := by
  have h := ze_callB (p := p) (pos := pos) (r := fun xs H Q => ∃ p ys, xs = [.ref p] ∧ (SqL S.K H p ys ∨ SqT S.K H p ys) ∧ Q (.int ys.length) H) (fun X hX => by obtain ⟨rfl, _, _⟩ := hX; exact call_len_seq) hm PySem.boot_len ha (ra_len (K := S.K) (B := B) (C := C1) (ds := xs.map enc)) hg (by decide) (by decide) he hpl
  rwa [List.length_map] at h
theorem ze_lenL {j : Nat} {xs : List Sh} (ha : ZA S B C [a] [.loc j] C1) (hm : S.mg "len" = none) (hj : C1.L[j]? = some (.ls xs) := by rfl) (hg : S.scope.names.lookup ("len" : Str) = some .globalImplicit := by rfl) (he : ∀ env, starEach [a] env = (false, eval a env) :: starEach [] env := by intro _; rfl) (hpl : ∀ env, (backTo pos (starEach [] env)).any (·.1) = false := by intro _; rfl) :
    ZE S B C (.Call (.Name "len" p) [a] [] pos) (Sh.of (xs.length : Int)) C1 :=
  ze_callB (p := p) (pos := pos) (r := fun xs H Q => ∃ p ys, xs = [.ref p] ∧ (SqL S.K H p ys ∨ SqT S.K H p ys) ∧ Q (.int ys.length) H) (fun X hX => by obtain ⟨rfl, _, _⟩ := hX; exact call_len_seq) hm PySem.boot_len ha (ra_lenL hj) hg (by decide) (by decide) he hpl
theorem ze_abs (ha : ZA S B C [a] [Sh.of i] C1) (hm : S.mg "abs" = none) (hg : S.scope.names.lookup ("abs" : Str) = some .globalImplicit := by rfl) (he : ∀ env, starEach [a] env = (false, eval a env) :: starEach [] env := by intro _; rfl) (hpl : ∀ env, (backTo pos (starEach [] env)).any (·.1) = false := by intro _; rfl) :
    ZE S B C (.Call (.Name "abs" p) [a] [] pos) (Sh.of ((i.natAbs : Nat) : Int)) C1 :=
  ze_callB (p := p) (pos := pos) (fun X hX => call_abs) hm (by decide +kernel) ha (fun ps ts T σ F H vs hl k Q q => by
    match vs, hl with
    | [v], _ =>
      cases rp_int k.top
      refine ⟨i, rfl, q _ F H (k.pop.push ?_)⟩
      have e : (if i < 0 then -i else i) = ((i.natAbs : Nat) : Int) := by split <;> omega
      rw [e]
      exact .int _) hg (by decide) (by decide) he hpl
theorem ze_max2 (ha : ZA S B C [a, b] [Sh.of i, Sh.of j] C1) (hm : S.mg "max" = none) (hg : S.scope.names.lookup ("max" : Str) = some .globalImplicit := by rfl) (he : ∀ env, starEach [a, b] env = (false, eval a env) :: starEach [b] env := by intro _; rfl) (hpl : ∀ env, (backTo pos (starEach [b] env)).any (·.1) = false := by intro _; rfl) :
    ZE S B C (.Call (.Name "max" p) [a, b] [] pos) (Sh.of (max i j)) C1 :=
  ze_callB (p := p) (pos := pos) (fun X hX => call_max2 hX.calm) hm (by decide +kernel) ha (fun ps ts T σ F H vs hl k Q q => by
    match vs, hl with
    | [v, w], _ =>
      cases rp_int k.top
      cases rp_int k.pop.top
      refine ⟨i, j, rfl, q _ F H (k.pop.pop.push ?_)⟩
      have e : (if j > i then j else i) = max i j := by split <;> omega
      rw [e]
      exact .int _) hg (by decide) (by decide) he hpl
theorem ze_min2 (ha : ZA S B C [a, b] [Sh.of i, Sh.of j] C1) (hm : S.mg "min" = none) (hg : S.scope.names.lookup ("min" : Str) = some .globalImplicit := by rfl) (he : ∀ env, starEach [a, b] env = (false, eval a env) :: starEach [b] env := by intro _; rfl) (hpl : ∀ env, (backTo pos (starEach [b] env)).any (·.1) = false := by intro _; rfl) :
    ZE S B C (.Call (.Name "min" p) [a, b] [] pos) (Sh.of (min i j)) C1 :=
  ze_callB (p := p) (pos := pos) (fun X hX => call_min2 hX.calm) hm (by decide +kernel) ha (fun ps ts T σ F H vs hl k Q q => by
    match vs, hl with
    | [v, w], _ =>
      cases rp_int k.top
      cases rp_int k.pop.top
      refine ⟨i, j, rfl, q _ F H (k.pop.pop.push ?_)⟩
      have e : (if j < i then j else i) = min i j := by split <;> omega
      rw [e]
      exact .int _) hg (by decide) (by decide) he hpl

/-! ### contexts of which less is asked -/
inductive LeG : List Sh → List Sh → Prop
  | nil : LeG [] []
  | keep {s : Sh} {G G' : List Sh} : LeG G G' → LeG (s :: G) (s :: G')
  | drop {s : Sh} {G G' : List Sh} : LeG G G' → LeG (s :: G) (.any :: G')
theorem LeG.refl : ∀ G : List Sh, LeG G G
  | [] => .nil
  | _ :: G => .keep (LeG.refl G)
theorem LeG.spec {G G' : List Sh} (h : LeG G G') : G'.length = G.length ∧ ∀ (i : Nat) (s : Sh), G'[i]? = some s → s = .any ∨ G[i]? = some s := by
  induction h with
  | nil => exact ⟨rfl, fun i s e => by simp at e⟩
  | keep _ ih =>
    refine ⟨by simp [ih.1], fun i s e => ?_⟩
    cases i with
    | zero => exact .inr e
    | succ i => simpa using ih.2 i s (by simpa using e)
  | drop _ ih =>
    refine ⟨by simp [ih.1], fun i s e => ?_⟩
    cases i with
    | zero => exact .inl (Option.some.inj e).symm
    | succ i => simpa using ih.2 i s (by simpa using e)
structure Cn.le (C C' : Cn) : Prop where
  P : C.P = C'.P
  L : C.L = C'.L
  G : LeG C.G C'.G
theorem Cn.le.refl (C : Cn) : C.le C := ⟨rfl, rfl, .refl _⟩
theorem Ok.le {K : PySem.W.Frag} {ps : List V × List V} {ts : List V} {T : List Sh} {σ : L2.St} {F H : Hp} (h : C.le C1) (k : Ok K B ps ts T σ C F H) : Ok K B ps ts T σ C1 F H := by
  obtain ⟨h1, h2, h3⟩ := h
  obtain ⟨P, L, G⟩ := C
  obtain ⟨P', L', G'⟩ := C1
  obtain rfl : P = P' := h1
  obtain rfl : L = L' := h2
  exact k.to h3.spec.1 h3.spec.2
theorem zs_weak {st : List Stmt} (h : C.le C1) (k : ZS S B C1 st E) : ZS S B C st E := .mk fun X hX ps ts T σ F H D k' q => k X hX ps ts T σ F H D (k'.le h) q
theorem ZG.weak (h : C.le C1) (k : ZG S B C1 tg s C2) : ZG S B C tg s C2 := .mk fun X hX ps ts T σ v F H k' Q q => k X hX ps ts T σ v F H (k'.le h) Q q

/-! ### typed sources -/
structure ZIt (S : Sx) (B : Bs) (C : Cn) (tg it : Expr) (xs : List α) (C' : Cn) : Prop where
  h : ∃ n item, n = xs.length ∧ (∀ i (h : i < xs.length), item i = enc xs[i]) ∧ ZI S B C tg it n item C'
theorem zit_list {xs : List α} (h : ZE S B C it (Sh.of xs) C1) : ZIt S B C tg it xs C1 := ⟨_, _, by rw [List.length_map], fun i h => by simp [h], zi_list (ds := xs.map enc) h⟩
def rgI (n : Nat) : List Int := (List.range n).map Int.ofNat
theorem rgI_len (n : Nat) : (rgI n).length = n := by simp [rgI]
theorem rgI_get {n i : Nat} (h : i < (rgI n).length) : (rgI n)[i] = (i : Int) := by simp [rgI]
theorem mem_rgI {n : Nat} {k : Int} : k ∈ rgI n ↔ 0 ≤ k ∧ k < n := by
  unfold rgI
  simp only [List.mem_map, List.mem_range]
  constructor
  · rintro ⟨m, h, rfl⟩; exact ⟨Int.natCast_nonneg m, Int.ofNat_lt.mpr h⟩
  · rintro ⟨h1, h2⟩; exact ⟨k.toNat, by omega, by simp; omega⟩
theorem zit_rng1 (h : ZA S B C [a] [Sh.of j] C1) (hm : S.mg "range" = none) (hj : j ≤ 1000000 := by omega) (hj0 : -1000000 ≤ j := by omega) (hg : S.scope.names.lookup ("range" : Str) = some .globalImplicit := by rfl) (hs : ∀ env, starEach [a] env = [(false, eval a env)] := by intro _; rfl) :
    ZIt S B C tg (.Call (.Name "range" p) [a] [] pos) (rgI j.toNat) C1 := ⟨_, _, (rgI_len _).symm, fun i h => by rw [rgI_get h], zi_rng1 h hm hj hj0 hg hs⟩
theorem zit_zip {elts : List Expr} {kk : Nat} {xs : List α} {ys : List β} (h : ZA S B C [a, b] [Sh.of xs, Sh.of ys] C1) (hm : S.mg "zip" = none) (hg : S.scope.names.lookup ("zip" : Str) = some .globalImplicit := by rfl) (hs : ∀ env, starEach [a, b] env = (false, eval a env) :: starEach [b] env := by intro _; rfl)
    (hpl : ∀ env, (backTo pos (starEach [b] env)).any (·.1) = false := by intro _; rfl) : ZIt S B C (.Tuple elts kk tpos) (.Call (.Name "zip" p) [a, b] [] pos) (xs.zip ys) C1 :=
  ⟨_, _, by simp, fun i h => by
    simp only [List.length_zip] at h
    have h1 : i < xs.length := by omega
    have h2 : i < ys.length := by omega
    show PyData.tuple [(xs.map enc).getD i .none, (ys.map enc).getD i .none] = _
    simp [h1, h2, enc], zi_zip (xs := xs.map enc) (ys := ys.map enc) h hm hg hs hpl⟩
theorem zit_enum {elts : List Expr} {kk : Nat} {xs : List α} (h : ZA S B C [a] [Sh.of xs] C1) (hm : S.mg "enumerate" = none) (hg : S.scope.names.lookup ("enumerate" : Str) = some .globalImplicit := by rfl) (hs : ∀ env, starEach [a] env = [(false, eval a env)] := by intro _; rfl) :
    ZIt S B C (.Tuple elts kk tpos) (.Call (.Name "enumerate" p) [a] [] pos) ((rgI xs.length).zip xs) C1 :=
  ⟨_, _, by simp [rgI_len], fun i h => by
    simp only [List.length_zip, rgI_len] at h
    have h1 : i < xs.length := by omega
    show PyData.tuple [enc (i : Int), (xs.map enc).getD i .none] = _
    simp [h1, enc, rgI_get], zi_enum (xs := xs.map enc) h hm hg hs⟩

/-! ### for, as a fold -/
theorem zs_fold {rest body : List Stmt} {σ : Type} {xs : List α} (hi : ZIt S B C tg it xs C1) (ctx : σ → Cn) (g : σ → α → σ) (b0 : σ) (h0 : C1.le (ctx b0)) (hm : ∀ b, (ctx b).L.length = C1.L.length)
    (hb : ∀ pre x post, xs = pre ++ x :: post → ∃ C2, ZG S B (ctx (pre.foldl g b0)) tg (Sh.of x) C2 ∧
      ZS S B C2 body { E with nx := fun C'' => C''.fits C1.L.length = true ∧ (C''.cut C1.L.length).le (ctx (g (pre.foldl g b0) x)), ct := fun C'' => C''.fits C1.L.length = true ∧ (C''.cut C1.L.length).le (ctx (g (pre.foldl g b0) x)), bk := fun C'' => ZS S B C'' rest E })
    (hd : ZS S B (ctx (xs.foldl g b0)) rest E) (hs : ∀ env x, foldedSetIterable it env x = pure x := by intro _ _; rfl) : ZS S B C (.For tg it body [] pos :: rest) E := by
  obtain ⟨n, item, rfl, e, hi⟩ := hi.h
  refine zs_for hi (fun i C' => C'.le (ctx ((xs.take i).foldl g b0))) (by simpa using h0) (fun i C' h => ?_) (fun i C' hin iv => ?_) (fun C' iv => ?_) hs
  · rw [h.L, hm]
  · obtain ⟨C2, b1, b2⟩ := hb (xs.take i) xs[i] (xs.drop (i + 1)) (by rw [List.getElem_cons_drop, List.take_append_drop])
    rw [e i hin]
    refine ⟨C2, b1.weak iv, ?_⟩
    have e2 : (xs.take (i + 1)).foldl g b0 = g ((xs.take i).foldl g b0) xs[i] := by
      rw [List.take_succ_eq_append_getElem hin, List.foldl_append]
      rfl
    show ZS S B C2 body { E with nx := fun C'' => _ ∧ (C''.cut C1.L.length).le (ctx ((xs.take (i + 1)).foldl g b0)), ct := fun C'' => _ ∧ (C''.cut C1.L.length).le (ctx ((xs.take (i + 1)).foldl g b0)), bk := _ }
    rw [e2]
    exact b2
  · rw [List.take_length] at iv
    exact zs_weak iv hd
/-- .. that stops with an answer: found at the first of the items -/
theorem zs_search {rest body : List Stmt} {xs : List α} (hi : ZIt S B C tg it xs C1) (ctx : Cn) (ok : α → Prop) (h0 : C1.le ctx)
    (hb : ∀ pre x post, xs = pre ++ x :: post → (∀ y ∈ pre, ok y) → ∃ C2, ZG S B ctx tg (Sh.of x) C2 ∧
      ZS S B C2 body { E with nx := fun C'' => ok x ∧ C''.fits C1.L.length = true ∧ (C''.cut C1.L.length).le ctx, ct := fun C'' => ok x ∧ C''.fits C1.L.length = true ∧ (C''.cut C1.L.length).le ctx, bk := fun C'' => ZS S B C'' rest E })
    (hd : (∀ y ∈ xs, ok y) → ZS S B ctx rest E) (hs : ∀ env x, foldedSetIterable it env x = pure x := by intro _ _; rfl) : ZS S B C (.For tg it body [] pos :: rest) E := by
  obtain ⟨n, item, rfl, e, hi⟩ := hi.h
  refine zs_for hi (fun i C' => C'.le ctx ∧ ∀ y ∈ xs.take i, ok y) ⟨h0, by simp⟩ (fun i C' h => ?_) (fun i C' hin iv => ?_) (fun C' iv => ?_) hs
  · rw [h.1.L, h0.L]
  · obtain ⟨C2, b1, b2⟩ := hb (xs.take i) xs[i] (xs.drop (i + 1)) (by rw [List.getElem_cons_drop, List.take_append_drop]) iv.2
    rw [e i hin]
    have e2 : ok xs[i] → ∀ y ∈ xs.take (i + 1), ok y := fun h y m => by
      rw [List.take_succ_eq_append_getElem hin] at m
      rcases List.mem_append.mp m with m | m
      · exact iv.2 y m
      · simp at m; rw [m]; exact h
    exact ⟨C2, b1.weak iv.1, .mk fun X hX ps ts T σ F H D k q => b2 X hX ps ts T σ F H D k (q.imp (fun C h => ⟨h.2.1, h.2.2, e2 h.1⟩) (fun _ _ h => h) (fun _ h => h) (fun C h => ⟨h.2.1, h.2.2, e2 h.1⟩))⟩
  · rw [List.take_length] at iv
    exact zs_weak iv.1 (hd iv.2)

/-! ### list comprehensions of data -/
theorem coll_all {α β : Type} {xs : List α} {f : α → β} {el : Nat → β} (h : ∀ i (hi : i < xs.length), el i = f xs[i]) : ∀ n, n ≤ xs.length → coll (fun _ => true) el n = (xs.take n).map f
  | 0, _ => rfl
  | n + 1, hn => by
    unfold coll
    rw [if_pos rfl, coll_all h n (by omega), List.take_succ_eq_append_getElem hn, List.map_append, h n hn]
    rfl
theorem coll_filter {α β : Type} {xs : List α} {f : α → β} {p : α → Bool} {kp : Nat → Bool} {el : Nat → β} (h : ∀ i (hi : i < xs.length), el i = f xs[i]) (hk : ∀ i (hi : i < xs.length), kp i = p xs[i]) : ∀ n, n ≤ xs.length → coll kp el n = ((xs.take n).filter p).map f
  | 0, _ => rfl
  | n + 1, hn => by
    unfold coll
    rw [coll_filter h hk n (by omega), List.take_succ_eq_append_getElem hn, List.filter_append, List.map_append, hk n hn, h n hn]
    by_cases e : p xs[n]
    · simp [e]
    · simp [e]
theorem data_of {xs : List α} : (Sh.ls (xs.map Sh.of)).data = some (enc xs) := by
  show (Sh.dataL (xs.map fun a => Sh.dat (enc a))).map PyData.list = some (.list (xs.map enc))
  rw [show (xs.map fun a => Sh.dat (enc a)) = (xs.map enc).map Sh.dat by rw [List.map_map]; rfl, dataL_map]
  rfl
/-- [f x for x in xs if p x], the context staying -/
theorem zc_map {scope : Scope} {us : List Nat} {xs : List α} (own : List (Str × Nat)) (hi : ZIt S B C tg it xs C1) (f : α → β) (p : α → Bool) (C2 : α → Cn)
    (hb : ∀ x, x ∈ xs → ZG' (S.blk scope) B (C1.wipe (own.map (·.2))) tg (enc x) us (C2 x) ∧ ZTs (S.blk scope) B (C2 x) ifs (p x) (C2 x) ∧ (p x = true → ZE (S.blk scope) B (C2 x) elt (Sh.of (f x)) (C2 x)))
    (hn : xs.length ≤ 1000000) (hw : ∀ x, (C2 x).wipe (own.map (·.2)) = C1.wipe (own.map (·.2)) := by intro _; rfl) (hu : ∀ u ∈ us, u ∈ own.map (·.2) := by decide) (hv : (own.map (·.2)).all (fun v => Nat.ble (v + 1) C1.G.length) = true := by rfl) :
    ZC S B C tg it ifs elt scope own (Sh.of ((xs.filter p).map f)) (C1.wipe (own.map (·.2))) := by
  obtain ⟨n, item, rfl, e, hi⟩ := hi.h
  have h := zc_lc (elt := elt) (ifs := ifs) (us := us) own hi (fun _ => C1.wipe (own.map (·.2))) rfl (fun i => if h : i < xs.length then p xs[i] else true) (fun i => if h : i < xs.length then Sh.of (f xs[i]) else .any) (fun i hin => by
    obtain ⟨b1, b2, b3⟩ := hb xs[i] (List.getElem_mem hin)
    refine ⟨C2 xs[i], C2 xs[i], ?_, ?_, fun hk => ⟨C2 xs[i], ?_, hw _⟩, fun _ => hw _⟩
    · rw [e i hin]; exact b1
    · rw [dif_pos hin]; exact b2
    · rw [dif_pos hin] at hk ⊢; exact b3 hk) (fun i => wipeC_len) hn ⟨C1, rfl⟩ hu hv
  rw [coll_filter (f := fun a => Sh.of (f a)) (p := p) (fun i hi => dif_pos hi) (fun i hi => dif_pos hi) _ (Nat.le_refl _), List.take_length] at h
  refine zc_frz h ?_
  have e2 : ((xs.filter p).map fun a => Sh.of (f a)) = ((xs.filter p).map f).map Sh.of := by rw [List.map_map]; rfl
  rw [e2]
  exact data_of
theorem zc_map1 {scope : Scope} {us : List Nat} {xs : List α} (own : List (Str × Nat)) (hi : ZIt S B C tg it xs C1) (f : α → β) (C2 : α → Cn)
    (hb : ∀ x, x ∈ xs → ZG' (S.blk scope) B (C1.wipe (own.map (·.2))) tg (enc x) us (C2 x) ∧ ZE (S.blk scope) B (C2 x) elt (Sh.of (f x)) (C2 x))
    (hn : xs.length ≤ 1000000) (hw : ∀ x, (C2 x).wipe (own.map (·.2)) = C1.wipe (own.map (·.2)) := by intro _; rfl) (hu : ∀ u ∈ us, u ∈ own.map (·.2) := by decide) (hv : (own.map (·.2)).all (fun v => Nat.ble (v + 1) C1.G.length) = true := by rfl) :
    ZC S B C tg it [] elt scope own (Sh.of (xs.map f)) (C1.wipe (own.map (·.2))) := by
  have h := zc_map (p := fun _ => true) (ifs := []) own hi f C2 (fun x m => ⟨(hb x m).1, zts_nil, fun _ => (hb x m).2⟩) hn hw hu hv
  rwa [List.filter_eq_self.mpr fun _ _ => rfl] at h

/-- an item, told by the list -/
def ixD [Inhabited α] (xs : List α) (i : Int) : α := (atI xs i).getD default
theorem ixD_nat [Inhabited α] {xs : List α} {n : Nat} (h : n < xs.length) : atI xs (n : Int) = some xs[n] := atI_nat (List.getElem?_eq_getElem h)
theorem isSome_at {xs : List α} {i : Int} (h0 : 0 ≤ i) (h : i < xs.length) : (atI xs i).isSome = true := by
  obtain ⟨n, rfl⟩ : ∃ n : Nat, i = (n : Int) := ⟨i.toNat, by omega⟩
  have hn : n < xs.length := by omega
  rw [atI_nat (List.getElem?_eq_getElem hn)]
  rfl
theorem ze_getD [Inhabited α] {xs : List α} (ha : ZE S B C a (Sh.of xs) C1) (hb : ZE S B C1 b (Sh.of i) C2) (h : (atI xs i).isSome = true) (hs : PlainIx b := by intro _ _; rfl) : ZE S B C (.Subscript a b pos) (Sh.of (ixD xs i)) C2 := by
  refine ze_get ha hb ?_ hs
  unfold ixD
  cases e : atI xs i with
  | none => rw [e] at h; cases h
  | some y => rfl
theorem ze_nilL : ZE S B C (.List [] pos) (.ls []) C := .mk fun X hX ps ts T σ F H k Q q => to_e (pe_lst pa_nil) ⟨Nat.zero_le _, fun p hp => q _ F _ (Ok.mine (vs := []) (ss := []) k hp rfl fun as q => by
  cases q
  exact .ls (k.fresh hp).1 upd_same .nil)⟩
theorem ze_nilT : ZE S B C (.List [] pos) (.ls (([] : List α).map Sh.of)) C := ze_nilL
/-- a written list: one's own -/
theorem ze_lst (ha : ZA S B C es ss C1) (hl : ss.length ≤ 1000000 := by exact Nat.le_of_ble_eq_true rfl) : ZE S B C (.List es pos) (.ls ss) C1 := .mk fun X hX ps ts T σ F H k Q q => to_e (pe_lst pa_wp) (ha X hX ps ts T σ F H k _ fun vs F1 H1 hl1 k1 =>
  ⟨by rw [hl1]; exact Nat.le_trans hl (by decide), fun p hp => q _ F1 _ (k1.mine hp hl1.symm fun as q => .ls (k1.fresh hp).1 upd_same q)⟩)
theorem ze_list {xs : List α} (ha : ZA S B C es ss C1) (hx : ss = xs.map Sh.of := by rfl) (hl : ss.length ≤ 1000000 := by exact Nat.le_of_ble_eq_true rfl) : ZE S B C (.List es pos) (Sh.of xs) C1 := by
  subst hx
  exact ze_frz (ze_lst ha hl) data_of
theorem ze_powL {v : Int} (ha : ZE S B C a (Sh.of i) C1) (hb : ZE S B C1 b (Sh.of j) C2) (h : (decide (0 ≤ j) && decide (j ≤ 1000000) && decide (i.natAbs < 2 ^ 64) && decide (i ^ j.toNat = v)) = true) : ZE S B C (.BinOp a .Pow b pos) (Sh.of v) C2 := by
  simp only [Bool.and_eq_true, decide_eq_true_eq] at h
  obtain ⟨⟨⟨h1, h2⟩, h3⟩, h4⟩ := h
  have q := ze_op (pos := pos) (op := .Pow) (fun _ _ => op_pow) ha hb (r2_I (P := CPow) (g := fun i j => .int (i ^ j.toNat)) (d := .int (i ^ j.toNat)) ⟨h1, h2, h3⟩ fun _ => .int _)
  rw [h4] at q
  exact q
/-- b as a number -/
def b2n (b : Bool) : Int := if b then 1 else 0
theorem ze_intB {t : Bool} (ha : ZA S B C [a] [Sh.of t] C1) (hm : S.mg "int" = none) (hg : S.scope.names.lookup ("int" : Str) = some .globalImplicit := by rfl) (he : ∀ env, starEach [a] env = (false, eval a env) :: starEach [] env := by intro _; rfl) (hpl : ∀ env, (backTo pos (starEach [] env)).any (·.1) = false := by intro _; rfl) :
    ZE S B C (.Call (.Name "int" p) [a] [] pos) (Sh.of (b2n t)) C1 :=
  ze_callTy (p := p) (pos := pos) (fun X hX => call_int1) hm (by decide +kernel) ha (fun ps ts T σ F H vs hl k Q q => by
    match vs, hl with
    | [v], _ =>
      cases rp_bl k.top
      exact .inr ⟨t, rfl, q _ F H (k.pop.push (.int _))⟩) hg (by decide) (by decide) he hpl
/-- list(xs) -/
theorem ze_listof {xs : List α} (ha : ZA S B C [a] [Sh.of xs] C1) (hm : S.mg "list" = none) (hg : S.scope.names.lookup ("list" : Str) = some .globalImplicit := by rfl) (he : ∀ env, starEach [a] env = (false, eval a env) :: starEach [] env := by intro _; rfl) (hpl : ∀ env, (backTo pos (starEach [] env)).any (·.1) = false := by intro _; rfl) :
    ZE S B C (.Call (.Name "list" p) [a] [] pos) (.ls (xs.map Sh.of)) C1 := 
  ze_callTy (t := "list") (p := p) (pos := pos) (r := fun xs H Q => ∃ p ys, xs = [.ref p] ∧ (SqL S.K H p ys ∨ SqT S.K H p ys) ∧ ∀ l, H l = none → Q (.ref l) (upd H l (.lst ys))) (fun X hX => by obtain ⟨rfl, _, _⟩ := hX; exact call_list_of) hm (by decide +kernel) ha (fun ps ts T σ F H vs hl k Q q => by
    match vs, hl with
    | [v], _ =>
      cases k.top with
      | @lst p ys _ hs hr =>
        refine ⟨p, ys, rfl, .inl (k.sub.seq hs), fun l hl => q _ F _ ?_⟩
        have k2 : Ok S.K B ps ([] ++ ts) ([] ++ T) σ C1 F H := k.pop
        refine k2.mine (s := .ls (xs.map Sh.of)) hl rfl fun as q => ?_
        cases q
        refine .ls (k.fresh hl).1 upd_same ?_
        have q2 := SepL.ofData (K := S.K) (ps := ps) (F := F) (H := upd H l (.lst ys)) hr
        rw [List.map_map] at q2
        exact q2) hg (by decide) (by decide) he hpl
theorem ze_listofD {xs : List α} (ha : ZA S B C [a] [Sh.of xs] C1) (hm : S.mg "list" = none) (hg : S.scope.names.lookup ("list" : Str) = some .globalImplicit := by rfl) (he : ∀ env, starEach [a] env = (false, eval a env) :: starEach [] env := by intro _; rfl) (hpl : ∀ env, (backTo pos (starEach [] env)).any (·.1) = false := by intro _; rfl) :
    ZE S B C (.Call (.Name "list" p) [a] [] pos) (Sh.of xs) C1 := ze_frz (ze_listof ha hm hg he hpl) data_of
/-- a fold whose context is told by what it was ahead of the loop -/
theorem zs_foldU {rest body : List Stmt} {σ : Type} {xs : List α} (hi : ZIt S B C tg it xs C1) (upd : σ → Cn → Cn) (g : σ → α → σ) (b0 : σ) (h0 : C1.le (upd b0 C1)) (hm : ∀ b, (upd b C1).L.length = C1.L.length)
    (hb : ∀ pre x post, xs = pre ++ x :: post → ∃ C2, ZG S B (upd (pre.foldl g b0) C1) tg (Sh.of x) C2 ∧
      ZS S B C2 body { E with nx := fun C'' => C''.fits C1.L.length = true ∧ (C''.cut C1.L.length).le (upd (g (pre.foldl g b0) x) C1), ct := fun C'' => C''.fits C1.L.length = true ∧ (C''.cut C1.L.length).le (upd (g (pre.foldl g b0) x) C1), bk := fun C'' => ZS S B C'' rest E })
    (hd : ZS S B (upd (xs.foldl g b0) C1) rest E) (hs : ∀ env x, foldedSetIterable it env x = pure x := by intro _ _; rfl) : ZS S B C (.For tg it body [] pos :: rest) E :=
  zs_fold hi (fun b => upd b C1) g b0 h0 hm hb hd hs
end
end Z

/-! ZH: calls that change what is handed in; methods of lists; dicts. -/
namespace Z
open PySem L2
open Enc (enc)
section
variable {K : PySem.W.Frag} {B : Bs} {C : Cn} {ps : List V × List V} {ts : List V} {T : List Sh} {σ : L2.St} {F H : Hp} {s r : Sh} {j : Nat}
/-- behind a call that changed the j-th of the things made here; its answer on top -/
theorem Ok.locCall (k : Ok K B ps ts T σ C F H) (hj : C.L[j]? = some s) : ∃ v bs, ps.2[j]? = some v ∧ Sep K ps F H s v bs ∧ bs.Nodup ∧ ∀ F' H' s' cs w br, Same F F' → Same F' H' → (∀ a o, H a = some o → a ∉ bs → H' a = some o) → (∀ a, H a ≠ none → H' a ≠ none) →
    (∀ a, F a = none → H a ≠ none → F' a = none) → Sep K ps F' H' s' v cs → Sep K ps F' H' r w br → (cs ++ br).Nodup → (∀ a ∈ cs, H a = none ∨ a ∈ bs) → (∀ a ∈ br, H a = none) → Ok K B ps (w :: ts) (r :: T) σ ⟨C.P, C.L.set j s', C.G⟩ F' H' := by
  obtain ⟨es, ls, as, bs, h1, h0, h2, h3, h4, h5, h6⟩ := id k.sl
  obtain ⟨v, ds, pre, post, g1, g2, rfl, g4⟩ := h0.at hj
  have nd := h4
  simp only [List.nodup_append, List.mem_append] at nd
  obtain ⟨-, ⟨⟨-, ⟨nd0, -, n1⟩, n2⟩, -, n3⟩, n4⟩ := nd
  have dis : ∀ a ∈ ds, a ∉ es ∧ a ∉ pre ∧ a ∉ post ∧ a ∉ as ∧ a ∉ bs := fun a m =>
    ⟨fun z => n4 a z a (.inl (.inr (.inl m))) rfl, fun z => n2 a z a (.inl m) rfl, fun z => n1 a m a z rfl, fun z => n3 a (.inr (.inl m)) a (.inl z) rfl, fun z => n3 a (.inr (.inl m)) a (.inr z) rfl⟩
  have tpp : ∀ a ∈ pre ++ post, F a = none ∧ H a ≠ none := fun a m => h0.there a (by
    simp only [List.mem_append] at m ⊢
    rcases m with m | m
    · exact .inl m
    · exact .inr (.inr m))
  refine ⟨v, ds, g1, g2, nd0, fun F' H' s' cs w br s1 s2 kp th ow q1 q2 nd2 c1 c2 => ?_⟩
  have ag : ∀ {xs : List Addr}, (∀ a ∈ xs, F a = none ∧ H a ≠ none) → (∀ a ∈ xs, a ∉ ds) → ∀ a ∈ xs, F' a = none ∧ H' a = H a := fun q n a m => by
    refine ⟨ow a (q a m).1 (q a m).2, ?_⟩
    cases e : H a with
    | none => exact absurd e (q a m).2
    | some o => exact kp a o e (n a m)
  have hds0 : ∀ a ∈ ds, B.H0 a = none := fun a m => h6 a (by simp [m])
  have old : ∀ a ∈ cs ++ br, B.H0 a = none := fun a m => by
    rcases List.mem_append.mp m with m | m
    · rcases c1 a m with z | z
      · exact (k.fresh z).2
      · exact hds0 a z
    · exact (k.fresh (c2 a m)).2
  have apart : ∀ {xs : List Addr}, (∀ a ∈ xs, F a = none ∧ H a ≠ none) → (∀ a ∈ xs, a ∉ ds) → ∀ a ∈ cs ++ br, a ∉ xs := fun q n a m z => by
    rcases List.mem_append.mp m with m | m
    · rcases c1 a m with y | y
      · exact (q a z).2 y
      · exact n a z y
    · exact (q a z).2 (c2 a m)
  have x1 := apart h1.there fun a m z => (dis a z).1 m
  have x2 := apart tpp fun a m z => by
    rcases List.mem_append.mp m with m | m
    · exact (dis a z).2.1 m
    · exact (dis a z).2.2.1 m
  have x3 := apart h2.there fun a m z => (dis a z).2.2.2.1 m
  have x4 := apart h3.there fun a m z => (dis a z).2.2.2.2 m
  refine ⟨k.ff.trans s1, s2, fun a o e m => kp a o (k.keep a o e m) (fun z => by rw [hds0 a z] at e; cases e), fun a e => th a (k.st a e), fun a e1 e2 => ow a (k.own a e1 e2) (k.st a e2), es, pre ++ (cs ++ post), br ++ as, bs, h1.mono s1 (ag h1.there fun a m z => (dis a z).1 m),
    g4 F' H' s' cs s1 (ag tpp fun a m z => ?_) q1, .cons q2 (h2.mono s1 (ag h2.there fun a m z => (dis a z).2.2.2.1 m)), h3.mono s1 (ag h3.there fun a m z => (dis a z).2.2.2.2 m), ?_, h5, fun a m => ?_⟩
  · rcases List.mem_append.mp m with m | m
    · exact (dis a z).2.1 m
    · exact (dis a z).2.2.1 m
  · have hp : (es ++ ((pre ++ (cs ++ post)) ++ ((br ++ as) ++ bs))).Perm ((cs ++ br) ++ (es ++ (pre ++ (post ++ (as ++ bs))))) := by
      simp only [List.append_assoc]
      have e1 : (es ++ (pre ++ (cs ++ (post ++ (br ++ (as ++ bs)))))).Perm (cs ++ (es ++ (pre ++ (post ++ (br ++ (as ++ bs)))))) :=
        (List.Perm.append_left _ (List.perm_append_comm_assoc ..)).trans (List.perm_append_comm_assoc ..)
      refine e1.trans (List.Perm.append_left _ ?_)
      exact (List.Perm.append_left _ ((List.Perm.append_left _ (List.perm_append_comm_assoc ..)).trans (List.perm_append_comm_assoc ..))).trans (List.perm_append_comm_assoc ..)
    refine hp.nodup_iff.mpr (List.nodup_append.mpr ⟨nd2, ?_, fun a m b m' e => ?_⟩)
    · refine h4.sublist (List.Sublist.append_left ?_ _)
      simp only [List.append_assoc]
      exact List.Sublist.append_left (List.sublist_append_right ..) _
    · subst e
      simp only [List.mem_append] at m'
      rcases m' with m' | m' | m' | m' | m'
      · exact x1 a m m'
      · exact x2 a m (List.mem_append_left _ m')
      · exact x2 a m (List.mem_append_right _ m')
      · exact x3 a m m'
      · exact x4 a m m'
  · simp only [List.mem_append] at m
    rcases m with (m | m | m) | (m | m) | m
    · exact h6 a (by simp [m])
    · exact old a (List.mem_append_left _ m)
    · exact h6 a (by simp [m])
    · exact old a (List.mem_append_right _ m)
    · exact h6 a (by simp [m])
    · exact h6 a (by simp [m])
/-- .. the j-th of the things handed in -/
theorem Ok.argCall (k : Ok K B ps ts T σ C F H) (hj : C.P[j]? = some s) : ∃ v bs, ps.1[j]? = some v ∧ Sep K ps F H s v bs ∧ bs.Nodup ∧ ∀ F' H' s' cs w br, Same F F' → Same F' H' → (∀ a o, H a = some o → a ∉ bs → H' a = some o) → (∀ a, H a ≠ none → H' a ≠ none) →
    (∀ a, F a = none → H a ≠ none → F' a = none) → Sep K ps F' H' s' v cs → Sep K ps F' H' r w br → (cs ++ br).Nodup → (∀ a ∈ cs, H a = none ∨ a ∈ bs) → (∀ a ∈ br, H a = none) → Ok K B ps (w :: ts) (r :: T) σ ⟨C.P.set j s', C.L, C.G⟩ F' H' := by
  obtain ⟨es, ls, as, bs, h1, h0, h2, h3, h4, h5, h6⟩ := id k.sl
  obtain ⟨v, ds, pre, post, g1, g2, rfl, g4⟩ := h1.at hj
  have nd := h4
  simp only [List.nodup_append, List.mem_append] at nd
  obtain ⟨⟨-, ⟨nd0, -, n1⟩, n2⟩, -, n3⟩ := nd
  have dis : ∀ a ∈ ds, a ∉ ls ∧ a ∉ pre ∧ a ∉ post ∧ a ∉ as ∧ a ∉ bs := fun a m =>
    ⟨fun z => n3 a (.inr (.inl m)) a (.inl z) rfl, fun z => n2 a z a (.inl m) rfl, fun z => n1 a m a z rfl, fun z => n3 a (.inr (.inl m)) a (.inr (.inl z)) rfl, fun z => n3 a (.inr (.inl m)) a (.inr (.inr z)) rfl⟩
  have tpp : ∀ a ∈ pre ++ post, F a = none ∧ H a ≠ none := fun a m => h1.there a (by
    simp only [List.mem_append] at m ⊢
    rcases m with m | m
    · exact .inl m
    · exact .inr (.inr m))
  refine ⟨v, ds, g1, g2, nd0, fun F' H' s' cs w br s1 s2 kp th ow q1 q2 nd2 c1 c2 => ?_⟩
  have ag : ∀ {xs : List Addr}, (∀ a ∈ xs, F a = none ∧ H a ≠ none) → (∀ a ∈ xs, a ∉ ds) → ∀ a ∈ xs, F' a = none ∧ H' a = H a := fun q n a m => by
    refine ⟨ow a (q a m).1 (q a m).2, ?_⟩
    cases e : H a with
    | none => exact absurd e (q a m).2
    | some o => exact kp a o e (n a m)
  have hM : ∀ a ∈ ds, B.H0 a = none ∨ a ∈ B.M := fun a m => h5 a (by simp [m])
  have apart : ∀ {xs : List Addr}, (∀ a ∈ xs, F a = none ∧ H a ≠ none) → (∀ a ∈ xs, a ∉ ds) → ∀ a ∈ cs ++ br, a ∉ xs := fun q n a m z => by
    rcases List.mem_append.mp m with m | m
    · rcases c1 a m with y | y
      · exact (q a z).2 y
      · exact n a z y
    · exact (q a z).2 (c2 a m)
  have x1 := apart h0.there fun a m z => (dis a z).1 m
  have x2 := apart tpp fun a m z => by
    rcases List.mem_append.mp m with m | m
    · exact (dis a z).2.1 m
    · exact (dis a z).2.2.1 m
  have x3 := apart h2.there fun a m z => (dis a z).2.2.2.1 m
  have x4 := apart h3.there fun a m z => (dis a z).2.2.2.2 m
  refine ⟨k.ff.trans s1, s2, fun a o e m => kp a o (k.keep a o e m) (fun z => (hM a z).elim (fun w => by rw [w] at e; cases e) m), fun a e => th a (k.st a e), fun a e1 e2 => ow a (k.own a e1 e2) (k.st a e2), pre ++ (cs ++ post), ls, br ++ as, bs,
    g4 F' H' s' cs s1 (ag tpp fun a m z => ?_) q1, h0.mono s1 (ag h0.there fun a m z => (dis a z).1 m), .cons q2 (h2.mono s1 (ag h2.there fun a m z => (dis a z).2.2.2.1 m)), h3.mono s1 (ag h3.there fun a m z => (dis a z).2.2.2.2 m), ?_, fun a m => ?_, fun a m => ?_⟩
  · rcases List.mem_append.mp m with m | m
    · exact (dis a z).2.1 m
    · exact (dis a z).2.2.1 m
  · have hp : ((pre ++ (cs ++ post)) ++ (ls ++ ((br ++ as) ++ bs))).Perm ((cs ++ br) ++ (pre ++ (post ++ (ls ++ (as ++ bs))))) := by
      simp only [List.append_assoc]
      refine (List.perm_append_comm_assoc ..).trans (List.Perm.append_left _ ?_)
      exact (List.Perm.append_left _ ((List.Perm.append_left _ (List.perm_append_comm_assoc ..)).trans (List.perm_append_comm_assoc ..))).trans (List.perm_append_comm_assoc ..)
    refine hp.nodup_iff.mpr (List.nodup_append.mpr ⟨nd2, ?_, fun a m b m' e => ?_⟩)
    · refine h4.sublist ?_
      simp only [List.append_assoc]
      exact List.Sublist.append_left (List.sublist_append_right ..) _
    · subst e
      simp only [List.mem_append] at m'
      rcases m' with m' | m' | m' | m' | m'
      · exact x2 a m (List.mem_append_left _ m')
      · exact x2 a m (List.mem_append_right _ m')
      · exact x1 a m m'
      · exact x3 a m m'
      · exact x4 a m m'
  · simp only [List.mem_append] at m
    rcases m with m | m | m
    · exact h5 a (by simp [m])
    · rcases c1 a m with z | z
      · exact .inl (k.fresh z).2
      · exact h5 a (by simp [z])
    · exact h5 a (by simp [m])
  · simp only [List.mem_append] at m
    rcases m with m | (m | m) | m
    · exact h6 a (by simp [m])
    · exact (k.fresh (c2 a m)).2
    · exact h6 a (by simp [m])
    · exact h6 a (by simp [m])
/-- the value of what is named -/
theorem Ok.topLoc {v : V} (k : Ok K B ps (v :: ts) (.loc j :: T) σ C F H) : ps.2[j]? = some v := by
  obtain ⟨es, ls, as, bs, h1, h0, h2, h3, h4⟩ := k.sl
  cases h2 with | cons h2 _ => cases h2 with | loc h => exact h
theorem Ok.topArg {v : V} (k : Ok K B ps (v :: ts) (.arg j :: T) σ C F H) : ps.1[j]? = some v := by
  obtain ⟨es, ls, as, bs, h1, h0, h2, h3, h4⟩ := k.sl
  cases h2 with | cons h2 _ => cases h2 with | arg h => exact h
end
section
variable {S : Sx} {B : Bs} {C C1 C2 C3 : Cn} {e a b c tg it elt o : Expr} {es ifs : List Expr} {s s0 s1 sa sb r : Sh} {ss : List Sh} {pos p p1 p2 tpos apos cpos : Pos} {E : ZEnds} {x : Str} {i : Int} {j : Nat} {d : PyData} {ds : List PyData}
/-- f(x, ..): x a thing made here that f changes, the others data -/
theorem ze_callL {k : Nat} {f : Addr} {fd : FuncData} {ps' : List Str} {sp : Spec} (G : FnOk S.prog S.w S.K S.mg S.base CX0 k f fd ps' (spZ S.K sp)) (hr : Room k S.A) (hm : S.mg x = some (.ref f)) (hk : PySem.W.keepIn S.K (.ref f) = true) (hb : Binds S.K fd ps' [])
    (ha : ZA S B C (e :: es) (.loc j :: ss) C1) (hd : ∃ ds : List PyData, ss = ds.map Sh.dat) (hj : C1.L[j]? = some s0) (hs : sp (s0 :: ss) r (s1 :: ss)) (hf : r.free = true := by rfl) (hf0 : s0.free = true := by rfl) (hf1 : s1.free = true := by rfl) (hg : S.scope.names.lookup x = some .globalImplicit := by rfl)
    (hdb : (x == ("__debug__" : Str)) = false := by decide) (he : ∀ env, starEach (e :: es) env = (false, eval e env) :: starEach es env := by intro _; rfl) (hpl : ∀ env, (backTo pos (starEach es env)).any (·.1) = false := by intro _; rfl) :
    ZE S B C (.Call (.Name x p) (e :: es) [] pos) r ⟨C1.P, C1.L.set j s1, C1.G⟩ := by
  obtain ⟨ds, rfl⟩ := hd
  refine .mk ?_
  rintro X hX ps ts T σ F H k0 Q q
  have ha' := ha X hX
  obtain ⟨rfl, _, _⟩ := hX
  refine to_e (pe_call (dvs := []) (E := E0) G hr hg hm hk hb .nil pass0 pa_wp hdb (he X.env) (hpl X.env)) (ha' ps ts T σ F H k0 _ fun vs F1 H1 hl k1 => ?_)
  cases vs with
  | nil => cases hl
  | cons v0 vs =>
    have hl' : vs.length = (ds.map Sh.dat).length := by simpa using hl
    have k2 : Ok (Sx.of X).K B ps (vs ++ ts) (ds.map Sh.dat ++ T) σ C1 F1 H1 := k1.pop
    have rd := k2.splitD hl'
    have v0e := k1.topLoc
    obtain ⟨v, bs, g1, g2, nd, g3⟩ := (k2.pops hl').locCall (r := r) hj
    obtain rfl : v = v0 := Option.some.inj (g1.symm.trans v0e)
    rw [List.append_nil]
    have q0 : SepL (Sx.of X).K (v :: vs, []) F1 H1 (s0 :: ds.map Sh.dat) (v :: vs) (bs ++ []) := .cons (g2.re hf0) (SepL.ofData rd)
    rw [List.append_nil] at q0
    refine ⟨F1, s0 :: ds.map Sh.dat, bs, r, s1 :: ds.map Sh.dat, k1.sub, q0, nd, hs, fun w F' H' br cs s1' s2' kp th ow q1 q2 nd2 n1 n2 => ?_⟩
    cases q1 with
    | cons q1 q1' =>
      obtain ⟨_, rfl⟩ := q1'.data
      rw [List.append_nil] at nd2 n1
      exact q w F' H' (g3 F' H' s1 _ w br s1' s2' kp th ow (q1.re hf1) (q2.re hf) nd2 n1 n2)
theorem ze_callA {k : Nat} {f : Addr} {fd : FuncData} {ps' : List Str} {sp : Spec} (G : FnOk S.prog S.w S.K S.mg S.base CX0 k f fd ps' (spZ S.K sp)) (hr : Room k S.A) (hm : S.mg x = some (.ref f)) (hk : PySem.W.keepIn S.K (.ref f) = true) (hb : Binds S.K fd ps' [])
    (ha : ZA S B C (e :: es) (.arg j :: ss) C1) (hd : ∃ ds : List PyData, ss = ds.map Sh.dat) (hj : C1.P[j]? = some s0) (hs : sp (s0 :: ss) r (s1 :: ss)) (hf : r.free = true := by rfl) (hf0 : s0.free = true := by rfl) (hf1 : s1.free = true := by rfl) (hg : S.scope.names.lookup x = some .globalImplicit := by rfl)
    (hdb : (x == ("__debug__" : Str)) = false := by decide) (he : ∀ env, starEach (e :: es) env = (false, eval e env) :: starEach es env := by intro _; rfl) (hpl : ∀ env, (backTo pos (starEach es env)).any (·.1) = false := by intro _; rfl) :
    ZE S B C (.Call (.Name x p) (e :: es) [] pos) r ⟨C1.P.set j s1, C1.L, C1.G⟩ := by
  obtain ⟨ds, rfl⟩ := hd
  refine .mk ?_
  rintro X hX ps ts T σ F H k0 Q q
  have ha' := ha X hX
  obtain ⟨rfl, _, _⟩ := hX
  refine to_e (pe_call (dvs := []) (E := E0) G hr hg hm hk hb .nil pass0 pa_wp hdb (he X.env) (hpl X.env)) (ha' ps ts T σ F H k0 _ fun vs F1 H1 hl k1 => ?_)
  cases vs with
  | nil => cases hl
  | cons v0 vs =>
    have hl' : vs.length = (ds.map Sh.dat).length := by simpa using hl
    have k2 : Ok (Sx.of X).K B ps (vs ++ ts) (ds.map Sh.dat ++ T) σ C1 F1 H1 := k1.pop
    have rd := k2.splitD hl'
    have v0e := k1.topArg
    obtain ⟨v, bs, g1, g2, nd, g3⟩ := (k2.pops hl').argCall (r := r) hj
    obtain rfl : v = v0 := Option.some.inj (g1.symm.trans v0e)
    rw [List.append_nil]
    have q0 : SepL (Sx.of X).K (v :: vs, []) F1 H1 (s0 :: ds.map Sh.dat) (v :: vs) (bs ++ []) := .cons (g2.re hf0) (SepL.ofData rd)
    rw [List.append_nil] at q0
    refine ⟨F1, s0 :: ds.map Sh.dat, bs, r, s1 :: ds.map Sh.dat, k1.sub, q0, nd, hs, fun w F' H' br cs s1' s2' kp th ow q1 q2 nd2 n1 n2 => ?_⟩
    cases q1 with
    | cons q1 q1' =>
      obtain ⟨_, rfl⟩ := q1'.data
      rw [List.append_nil] at nd2 n1
      exact q w F' H' (g3 F' H' s1 _ w br s1' s2' kp th ow (q1.re hf1) (q2.re hf) nd2 n1 n2)

/-! ### methods -/
/-- o.m(e, ..) of a list that changes: what it comes to -/
theorem ze_bmL {T : String} {id : String} {name : Str} {r : V → List V → Hp → VK → Prop} {xs : List Sh} (pa : PlainAttrs T) (slot : Slot T name id) (hty : typeOf (.builtin id) = pure (.type "method_descriptor")) (hm : ∀ X, Fam S X → MtR X id r)
    (ho : ZE S B C o (.loc j) C) (hj : C.L[j]? = some (.ls xs)) (hT : T = "list") (ha : ZA S B C (e :: es) ss C2)
    (hr : ∀ ps ts T' σ F H v vs, vs.length = ss.length → Ok S.K B ps (vs ++ (v :: ts)) (ss ++ (.loc j :: T')) σ C2 F H → ∀ Q : VK, (∀ w F' H', Ok S.K B ps (w :: ts) (s :: T') σ C3 F' H' → Q w H') → r v vs H Q)
    (hbase : ∀ env, attributeBase o name env (eval o env) = eval o env := by intro _; rfl)
    (hfew : ∀ env, ((backTo cpos (starEach (e :: es) env)).all (fun x => !x.1) && (backToKw cpos (keywordEach [] env)).all (fun x => x.1.isSome)
      && decide ((e :: es).length + ([] : List Keyword).length + (if ([] : List Keyword).isEmpty then 0 else 1) < 30)) = true := by intro _; rfl)
    (hline : (apos.endLine == cpos.line) = true := by rfl) (hs : ∀ env, starEach (e :: es) env = (false, eval e env) :: starEach es env := by intro _; rfl) (hplain : ∀ env, (backTo cpos (starEach es env)).any (·.1) = false := by intro _; rfl) :
    ZE S B C (.Call (.Attribute o name apos) (e :: es) [] cpos) s C3 := by
  refine .mk ?_
  intro X hX ps ts T' σ F H k Q q
  have ho' := ho X hX
  have ha' := ha X hX
  have hm' := hm X hX
  obtain ⟨rfl, _, _⟩ := hX
  subst hT
  refine to_e (pe_bm pa slot hty hm' pe_wp pa_wp (hbase X.env) (hfew X.env) hline (hs X.env) (hplain X.env)) (ho' ps ts T' σ F H k _ fun v F1 H1 k1 => ?_)
  have ve := k1.topLoc
  obtain ⟨es1, ls1, as1, bs1, h1, h0, h2, h3, h4⟩ := k1.sl
  obtain ⟨w, cs, pre, post, g1, g2, _⟩ := h0.at hj
  obtain rfl : w = v := Option.some.inj (g1.symm.trans ve)
  refine ⟨?_, ha' ps _ _ σ F1 H1 k1 _ fun vs F2 H2 hl k2 => hr ps ts T' σ F2 H2 w vs hl k2 Q q⟩
  cases g2 with
  | ls f1 f2 f3 => exact .inl ⟨rfl, _, .inl (.inl f2)⟩
/-- xs.append(e) -/
theorem ze_app {xs : List Sh} (ho : ZE S B C o (.loc j) C) (he : ZE S B C e s C1) (hj : C.L[j]? = some (.ls xs) := by rfl) (hj1 : C1.L[j]? = some (.ls xs) := by rfl) (hl : xs.length ≤ 1000000) (hs0 : ∀ env, starEach [e] env = (false, eval e env) :: starEach [] env := by intro _; rfl)
    (hbase : ∀ env, attributeBase o "append" env (eval o env) = eval o env := by intro _; rfl)
    (hfew : ∀ env, ((backTo cpos (starEach [e] env)).all (fun x => !x.1) && (backToKw cpos (keywordEach [] env)).all (fun x => x.1.isSome)
      && decide (([e] : List Expr).length + ([] : List Keyword).length + (if ([] : List Keyword).isEmpty then 0 else 1) < 30)) = true := by intro _; rfl)
    (hline : (apos.endLine == cpos.line) = true := by rfl) (hplain : ∀ env, (backTo cpos (starEach [] env)).any (·.1) = false := by intro _; rfl) :
    ZE S B C (.Call (.Attribute o "append" apos) [e] [] cpos) (.dat .none) ⟨C1.P, C1.L.set j (.ls (xs ++ [s])), C1.G⟩ :=
  ze_bmL PySem.F.plainAttrs_list PySem.F.slot_list_append PySem.F.type_list_append (fun X _ => mt_append) ho hj rfl (za_cons he za_nil hs0) (fun ps ts T' σ F H v vs hl' k Q q => by
    match vs, hl' with
    | [y], _ =>
      have ve := k.pop.topLoc
      have k2 : Ok S.K B ps ([y] ++ (v :: ts)) ([s] ++ (.loc j :: T')) σ C1 F H := k
      obtain ⟨w, bs, cs, g1, g2, g3, g4, g6, g5⟩ := k2.locAt rfl hj1
      obtain rfl : w = v := Option.some.inj (g1.symm.trans ve)
      cases g3 with
      | @cons _ _ _ _ c1 c2 g3 g3' =>
        cases g3'
        cases g2 with
        | @ls _ p ys bs' f1 f2 f3 =>
          refine ⟨p, ys, y, rfl, rfl, f2, ?_, ?_⟩
          · rw [← f3.length]
            exact Nat.lt_of_le_of_lt hl (by decide)
          · refine q .non F _ ((g5 (upd H p (.lst (ys ++ [y]))) (.ls (xs ++ [s])) (p :: (bs' ++ c1)) [] (fun a n => upd_ne fun z => n (by simp [z])) (fun a m => ?_) (by simp) ?_).pop.push .non)
            · by_cases z : a = p
              · subst z; rw [upd_same]; exact nofun
              · rw [upd_ne z]; exact (Sep.there (.ls f1 f2 f3) a m).2
            · have nd : p ∉ bs' ∧ p ∉ c1 := ⟨(List.nodup_cons.mp g6).1, fun z => g4 p (List.mem_cons_self ..) (by simpa using z)⟩
              have eq : ∀ {zs : List Addr}, (∀ a ∈ zs, F a = none ∧ H a ≠ none) → p ∉ zs → ∀ a ∈ zs, F a = none ∧ (upd H p (.lst (ys ++ [y]))) a = H a := fun q n a m => ⟨(q a m).1, upd_ne fun e => n (e ▸ m)⟩
              exact .ls f1 upd_same ((f3.mono (Same.refl _) (eq f3.there nd.1)).snoc (g3.mono (Same.refl _) (eq g3.there nd.2)))) hbase hfew hline hs0 hplain
theorem ze_appT {α : Type} [Enc α] {xs : List α} {y : α} (ho : ZE S B C o (.loc j) C) (he : ZE S B C e (Sh.of y) C1) (hj : C.L[j]? = some (.ls (xs.map Sh.of)) := by rfl) (hj1 : C1.L[j]? = some (.ls (xs.map Sh.of)) := by rfl) (hl : xs.length ≤ 1000000) (hs0 : ∀ env, starEach [e] env = (false, eval e env) :: starEach [] env := by intro _; rfl)
    (hbase : ∀ env, attributeBase o "append" env (eval o env) = eval o env := by intro _; rfl)
    (hfew : ∀ env, ((backTo cpos (starEach [e] env)).all (fun x => !x.1) && (backToKw cpos (keywordEach [] env)).all (fun x => x.1.isSome)
      && decide (([e] : List Expr).length + ([] : List Keyword).length + (if ([] : List Keyword).isEmpty then 0 else 1) < 30)) = true := by intro _; rfl)
    (hline : (apos.endLine == cpos.line) = true := by rfl) (hplain : ∀ env, (backTo cpos (starEach [] env)).any (·.1) = false := by intro _; rfl) :
    ZE S B C (.Call (.Attribute o "append" apos) [e] [] cpos) (.dat .none) ⟨C1.P, C1.L.set j (.ls ((xs ++ [y]).map Sh.of)), C1.G⟩ := by
  have h := ze_app (apos := apos) (cpos := cpos) ho he hj hj1 (by rw [List.length_map]; exact hl) hs0 hbase hfew hline hplain
  rw [show ((xs ++ [y]).map Sh.of) = xs.map Sh.of ++ [Sh.of y] by rw [List.map_append]; rfl]
  exact h
end
end Z

/-! ZQ: ==, in, remove of data in which an empty dict may lie. -/
namespace Z
open PySem L2 PySem.SeqAt
open AutoSeq1 (wpAny_loadPart')
open Enc (enc)
def emptyD (ep : Nat) : Obj := { cls := .type "dict", dict := none, data := .dict #[] ep, slots := #[] }
def IsNil (h : Heap) (a : Addr) : Prop := (∃ ep, h.get? a = some (emptyD ep)) ∧ (a == sysModules) = false

theorem bool_eq_dict (x : Bool) (l : Addr) (ep : Nat) :
    Meets (Builtin.«int.__eq__» ⟨[.bool x, .ref l], []⟩) (fun _ R s => s.heap.get? l = some (emptyD ep) ∧ R (.ok (.ret .notImplemented)) s) :=
  .of_wp fun prog w A R s h => by obtain ⟨hp, g, d, tk, os⟩ := s; obtain ⟨hl, h⟩ := h; unfold emptyD at hl; wp_walk using wpAny_loadPart' hl, wpAny_load hl; exact ⟨_, rfl, h⟩
theorem int_eq_dict (x : Int) (t : Tok) (l : Addr) (ep : Nat) :
    Meets (Builtin.«int.__eq__» ⟨[.int x t, .ref l], []⟩) (fun _ R s => s.heap.get? l = some (emptyD ep) ∧ R (.ok (.ret .notImplemented)) s) :=
  .of_wp fun prog w A R s h => by obtain ⟨hp, g, d, tk, os⟩ := s; obtain ⟨hl, h⟩ := h; unfold emptyD at hl; wp_walk using wpAny_loadPart' hl, wpAny_load hl; exact ⟨_, rfl, h⟩
theorem str_eq_dict (x : Str) (t : Tok) (l : Addr) (ep : Nat) :
    Meets (Builtin.«str.__eq__» ⟨[.str x t, .ref l], []⟩) (fun _ R s => s.heap.get? l = some (emptyD ep) ∧ R (.ok (.ret .notImplemented)) s) :=
  .of_wp fun prog w A R s h => by obtain ⟨hp, g, d, tk, os⟩ := s; obtain ⟨hl, h⟩ := h; unfold emptyD at hl; wp_walk using wpAny_loadPart' hl, wpAny_load hl; exact ⟨_, rfl, h⟩
theorem list_eq_dict (l b : Addr) (items : Array Value) (n : Nat) (dd : Option Addr) (sl : Array (Option Value)) (ep : Nat) :
    Meets (Builtin.«list.__eq__» ⟨[.ref l, .ref b], []⟩) (fun _ R s => s.heap.get? l = some { cls := .type "list", dict := dd, data := .seq items n, slots := sl } ∧ s.heap.get? b = some (emptyD ep) ∧ R (.ok (.ret .notImplemented)) s) :=
  .of_wp fun prog w A R s h => by obtain ⟨hp, g, d, tk, os⟩ := s; obtain ⟨hl, hb, h⟩ := h; unfold emptyD at hb; have f1 := F.sub_dict_list; wp_walk using wpAny_loadPart' hl, wpAny_loadPart' hb; exact ⟨_, rfl, h⟩
theorem tuple_eq_dict (l b : Addr) (items : Array Value) (n : Nat) (dd : Option Addr) (sl : Array (Option Value)) (ep : Nat) :
    Meets (Builtin.«tuple.__eq__» ⟨[.ref l, .ref b], []⟩) (fun _ R s => s.heap.get? l = some { cls := .type "tuple", dict := dd, data := .seq items n, slots := sl } ∧ s.heap.get? b = some (emptyD ep) ∧ R (.ok (.ret .notImplemented)) s) :=
  .of_wp fun prog w A R s h => by obtain ⟨hp, g, d, tk, os⟩ := s; obtain ⟨hl, hb, h⟩ := h; unfold emptyD at hb; have f1 := F.sub_dict_tuple; wp_walk using wpAny_loadPart' hl, wpAny_loadPart' hb; exact ⟨_, rfl, h⟩
section
variable {M : Model} {A : Around} {E : Value → Shared → Prop} {s : Shared} {prog : Program} {w : World}
theorem IsNil.ty {h : Heap} {a : Addr} (x : IsNil h a) : ∃ ep, h.get? a = some (emptyD ep) := x.1
theorem dict_eq_declines {a : Addr} {b : Value} {Tb : String} {Q : Value → Shared → Prop} (x : IsNil s.heap a) (hb : s.TypeIs b Tb) (hsub : isSubtype (.type Tb) (.type "dict") = pure false) (slot : Slot "dict" nm "dict.__eq__") (h : Q .notImplemented s) :
    wpAny (model prog w) A (call (.builtin "dict.__eq__") [.ref a, b]) Q E s := by
  obtain ⟨⟨ep, ho⟩, hne⟩ := x
  have ty : s.TypeIs (.ref a) "dict" := ⟨_, ho, rfl⟩
  refine wpAny_call_entry slot ty PySem.F.entry_dict_eq ?_ (PySem.F.args_dict_eq_2 _ _)
  show wpAny _ _ (Builtin.Dict.dictSlotArgs "__eq__" ⟨[.ref a, b], []⟩ >>= _) _ _ s
  refine wpAny_bind ?_
  unfold Builtin.Dict.dictSlotArgs
  refine wpAny_bind (wpAny_notOrdered_dict ty ?_)
  show wpAny _ _ (pure (Value.ref a, b)) _ _ s
  refine wpAny_pure ?_
  refine wpAny_bind (wpAny_isInstance (T := Tb) hb hsub ?_)
  simp only [Bool.not_false, if_true]
  exact wpAny_bind (wpAny_rule (wpAny_pure ⟨_, rfl, h⟩))

theorem rc_none_nil  {a : Addr} (x : IsNil s.heap a) (hu : A.units < cLine) : RcAt A s (.none) (.ref a) false := fun prog w E Q h => by
  obtain ⟨ep, hn⟩ := x.ty
  exact rc_eq_decline_or (k := false) rfl ⟨_, hn, rfl⟩ (by decide) F.sub_dict_NoneType F.slot_NoneType_eq F.slot_dict_eq_refl
    (fun _ hq => call_gives F.slot_NoneType_eq rfl F.entry_NoneType_eq (F.args_NoneType_eq_2 _ _) (NoneType___eq___none_ref_0 _) hq)
    (fun _ hq => dict_eq_declines x rfl F.sub_NoneType_dict F.slot_dict_eq_refl hq)
    (fun _ hq => wpAny_of_eq (rfl : isSame (.none) (.ref a) = pure false) hq) (.inr hu) h
theorem rc_nil_none  {a : Addr} (x : IsNil s.heap a) (hu : A.units < cLine) : RcAt A s (.ref a) (.none) false := fun prog w E Q h => by
  obtain ⟨ep, hn⟩ := x.ty
  exact rc_eq_decline_or (k := false) ⟨_, hn, rfl⟩ rfl (by decide) F.sub_NoneType_dict F.slot_dict_eq F.slot_NoneType_eq_refl
    (fun _ hq => dict_eq_declines x rfl F.sub_NoneType_dict F.slot_dict_eq hq)
    (fun _ hq => call_gives F.slot_NoneType_eq_refl rfl F.entry_NoneType_eq (F.args_NoneType_eq_2 _ _) (NoneType___eq___none_ref_0 _) hq)
    (fun _ hq => wpAny_of_eq (rfl : isSame (.ref a) (.none) = pure false) hq) (.inr hu) h
theorem eq_none_nil  {a : Addr} (x : IsNil s.heap a) (hu : A.units < cLine) : EqAt A s (.none) (.ref a) false := fun prog w E Q h => by
  unfold eqBool
  refine wpAny_holding ?_
  refine wpAny_ite_split (fun hab => absurd (eq_of_beq hab) nofun) (fun _ => ?_)
  exact wpAny_bind (rc_none_nil x hu prog w E _ (wpAny_truthy_bool h))
theorem eq_nil_none  {a : Addr} (x : IsNil s.heap a) (hu : A.units < cLine) : EqAt A s (.ref a) (.none) false := fun prog w E Q h => by
  unfold eqBool
  refine wpAny_holding ?_
  refine wpAny_ite_split (fun hab => absurd (eq_of_beq hab) nofun) (fun _ => ?_)
  exact wpAny_bind (rc_nil_none x hu prog w E _ (wpAny_truthy_bool h))
theorem rc_bool_nil (y : Bool) {a : Addr} (x : IsNil s.heap a) (hu : A.units < cLine) : RcAt A s (.bool y) (.ref a) false := fun prog w E Q h => by
  obtain ⟨ep, hn⟩ := x.ty
  exact rc_eq_decline_or (k := false) rfl ⟨_, hn, rfl⟩ (by decide) F.sub_dict_bool F.slot_bool_eq F.slot_dict_eq_refl
    (fun _ hq => call_meets F.slot_bool_eq rfl F.entry_int_eq (F.args_int_eq_2 _ _) (bool_eq_dict y a ep) ⟨hn, hq⟩)
    (fun _ hq => dict_eq_declines x rfl F.sub_bool_dict F.slot_dict_eq_refl hq)
    (fun _ hq => wpAny_of_eq (rfl : isSame (.bool y) (.ref a) = pure false) hq) (.inr hu) h
theorem rc_nil_bool (y : Bool) {a : Addr} (x : IsNil s.heap a) (hu : A.units < cLine) : RcAt A s (.ref a) (.bool y) false := fun prog w E Q h => by
  obtain ⟨ep, hn⟩ := x.ty
  exact rc_eq_decline_or (k := false) ⟨_, hn, rfl⟩ rfl (by decide) F.sub_bool_dict F.slot_dict_eq F.slot_bool_eq_refl
    (fun _ hq => dict_eq_declines x rfl F.sub_bool_dict F.slot_dict_eq hq)
    (fun _ hq => call_meets F.slot_bool_eq_refl rfl F.entry_int_eq (F.args_int_eq_2 _ _) (bool_eq_dict y a ep) ⟨hn, hq⟩)
    (fun _ hq => wpAny_of_eq (rfl : isSame (.ref a) (.bool y) = pure false) hq) (.inr hu) h
theorem eq_bool_nil (y : Bool) {a : Addr} (x : IsNil s.heap a) (hu : A.units < cLine) : EqAt A s (.bool y) (.ref a) false := fun prog w E Q h => by
  unfold eqBool
  refine wpAny_holding ?_
  refine wpAny_ite_split (fun hab => absurd (eq_of_beq hab) nofun) (fun _ => ?_)
  exact wpAny_bind (rc_bool_nil y x hu prog w E _ (wpAny_truthy_bool h))
theorem eq_nil_bool (y : Bool) {a : Addr} (x : IsNil s.heap a) (hu : A.units < cLine) : EqAt A s (.ref a) (.bool y) false := fun prog w E Q h => by
  unfold eqBool
  refine wpAny_holding ?_
  refine wpAny_ite_split (fun hab => absurd (eq_of_beq hab) nofun) (fun _ => ?_)
  exact wpAny_bind (rc_nil_bool y x hu prog w E _ (wpAny_truthy_bool h))
theorem rc_int_nil (y : Int) (t : Tok) {a : Addr} (x : IsNil s.heap a) (hu : A.units < cLine) : RcAt A s (.int y t) (.ref a) false := fun prog w E Q h => by
  obtain ⟨ep, hn⟩ := x.ty
  exact rc_eq_decline_or (k := false) (typeIs_int s y t) ⟨_, hn, rfl⟩ (by decide) F.sub_dict_int F.slot_int_eq F.slot_dict_eq_refl
    (fun _ hq => call_meets F.slot_int_eq (typeIs_int s y t) F.entry_int_eq (F.args_int_eq_2 _ _) (int_eq_dict y t a ep) ⟨hn, hq⟩)
    (fun _ hq => dict_eq_declines x (typeIs_int s y t) F.sub_int_dict F.slot_dict_eq_refl hq)
    (fun _ hq => wpAny_of_eq (rfl : isSame (.int y t) (.ref a) = pure false) hq) (.inr hu) h
theorem rc_nil_int (y : Int) (t : Tok) {a : Addr} (x : IsNil s.heap a) (hu : A.units < cLine) : RcAt A s (.ref a) (.int y t) false := fun prog w E Q h => by
  obtain ⟨ep, hn⟩ := x.ty
  exact rc_eq_decline_or (k := false) ⟨_, hn, rfl⟩ (typeIs_int s y t) (by decide) F.sub_int_dict F.slot_dict_eq F.slot_int_eq_refl
    (fun _ hq => dict_eq_declines x (typeIs_int s y t) F.sub_int_dict F.slot_dict_eq hq)
    (fun _ hq => call_meets F.slot_int_eq_refl (typeIs_int s y t) F.entry_int_eq (F.args_int_eq_2 _ _) (int_eq_dict y t a ep) ⟨hn, hq⟩)
    (fun _ hq => wpAny_of_eq (rfl : isSame (.ref a) (.int y t) = pure false) hq) (.inr hu) h
theorem eq_int_nil (y : Int) (t : Tok) {a : Addr} (x : IsNil s.heap a) (hu : A.units < cLine) : EqAt A s (.int y t) (.ref a) false := fun prog w E Q h => by
  unfold eqBool
  refine wpAny_holding ?_
  refine wpAny_ite_split (fun hab => absurd (eq_of_beq hab) nofun) (fun _ => ?_)
  exact wpAny_bind (rc_int_nil y t x hu prog w E _ (wpAny_truthy_bool h))
theorem eq_nil_int (y : Int) (t : Tok) {a : Addr} (x : IsNil s.heap a) (hu : A.units < cLine) : EqAt A s (.ref a) (.int y t) false := fun prog w E Q h => by
  unfold eqBool
  refine wpAny_holding ?_
  refine wpAny_ite_split (fun hab => absurd (eq_of_beq hab) nofun) (fun _ => ?_)
  exact wpAny_bind (rc_nil_int y t x hu prog w E _ (wpAny_truthy_bool h))
theorem rc_str_nil (y : Str) (t : Tok) {a : Addr} (x : IsNil s.heap a) (hu : A.units < cLine) : RcAt A s (.str y t) (.ref a) false := fun prog w E Q h => by
  obtain ⟨ep, hn⟩ := x.ty
  exact rc_eq_decline_or (k := false) (typeIs_str s y t) ⟨_, hn, rfl⟩ (by decide) F.sub_dict_str F.slot_str_eq F.slot_dict_eq_refl
    (fun _ hq => call_meets F.slot_str_eq (typeIs_str s y t) F.entry_str_eq (F.args_str_eq_2 _ _) (str_eq_dict y t a ep) ⟨hn, hq⟩)
    (fun _ hq => dict_eq_declines x (typeIs_str s y t) F.sub_str_dict F.slot_dict_eq_refl hq)
    (fun _ hq => wpAny_of_eq (rfl : isSame (.str y t) (.ref a) = pure false) hq) (.inr hu) h
theorem rc_nil_str (y : Str) (t : Tok) {a : Addr} (x : IsNil s.heap a) (hu : A.units < cLine) : RcAt A s (.ref a) (.str y t) false := fun prog w E Q h => by
  obtain ⟨ep, hn⟩ := x.ty
  exact rc_eq_decline_or (k := false) ⟨_, hn, rfl⟩ (typeIs_str s y t) (by decide) F.sub_str_dict F.slot_dict_eq F.slot_str_eq_refl
    (fun _ hq => dict_eq_declines x (typeIs_str s y t) F.sub_str_dict F.slot_dict_eq hq)
    (fun _ hq => call_meets F.slot_str_eq_refl (typeIs_str s y t) F.entry_str_eq (F.args_str_eq_2 _ _) (str_eq_dict y t a ep) ⟨hn, hq⟩)
    (fun _ hq => wpAny_of_eq (rfl : isSame (.ref a) (.str y t) = pure false) hq) (.inr hu) h
theorem eq_str_nil (y : Str) (t : Tok) {a : Addr} (x : IsNil s.heap a) (hu : A.units < cLine) : EqAt A s (.str y t) (.ref a) false := fun prog w E Q h => by
  unfold eqBool
  refine wpAny_holding ?_
  refine wpAny_ite_split (fun hab => absurd (eq_of_beq hab) nofun) (fun _ => ?_)
  exact wpAny_bind (rc_str_nil y t x hu prog w E _ (wpAny_truthy_bool h))
theorem eq_nil_str (y : Str) (t : Tok) {a : Addr} (x : IsNil s.heap a) (hu : A.units < cLine) : EqAt A s (.ref a) (.str y t) false := fun prog w E Q h => by
  unfold eqBool
  refine wpAny_holding ?_
  refine wpAny_ite_split (fun hab => absurd (eq_of_beq hab) nofun) (fun _ => ?_)
  exact wpAny_bind (rc_nil_str y t x hu prog w E _ (wpAny_truthy_bool h))
theorem rc_list_nil {l : Addr} {items : Array Value} (hl : s.heap.IsList l items) {a : Addr} (x : IsNil s.heap a) (hu : A.units < cLine) : RcAt A s (.ref l) (.ref a) false := fun prog w E Q h => by
  obtain ⟨ep, hn⟩ := x.ty
  obtain ⟨⟨cls, dd, data, sl⟩, ho, hc, n, hd⟩ := id hl
  simp only at hc hd
  subst hc hd
  have hne : l ≠ a := fun e => by subst e; rw [ho] at hn; exact absurd (congrArg (·.cls) (Option.some.inj hn)) (by simp [emptyD])
  exact rc_eq_decline_or (k := false) ⟨_, ho, rfl⟩ ⟨_, hn, rfl⟩ (by decide) F.sub_dict_list F.slot_list_eq F.slot_dict_eq_refl
    (fun _ hq => call_meets F.slot_list_eq ⟨_, ho, rfl⟩ F.entry_list_eq (F.args_list_eq_2 _ _) (list_eq_dict l a items n dd sl ep) ⟨ho, hn, hq⟩)
    (fun _ hq => dict_eq_declines x ⟨_, ho, rfl⟩ F.sub_list_dict F.slot_dict_eq_refl hq)
    (fun _ hq => wpAny_isSame_ref_other hne ho hn (by simp [emptyD]) hq) (.inr hu) h
theorem rc_nil_list {l : Addr} {items : Array Value} (hl : s.heap.IsList l items) {a : Addr} (x : IsNil s.heap a) (hu : A.units < cLine) : RcAt A s (.ref a) (.ref l) false := fun prog w E Q h => by
  obtain ⟨ep, hn⟩ := x.ty
  obtain ⟨⟨cls, dd, data, sl⟩, ho, hc, n, hd⟩ := id hl
  simp only at hc hd
  subst hc hd
  have hne : l ≠ a := fun e => by subst e; rw [ho] at hn; exact absurd (congrArg (·.cls) (Option.some.inj hn)) (by simp [emptyD])
  exact rc_eq_decline_or (k := false) ⟨_, hn, rfl⟩ ⟨_, ho, rfl⟩ (by decide) F.sub_list_dict F.slot_dict_eq F.slot_list_eq_refl
    (fun _ hq => dict_eq_declines x ⟨_, ho, rfl⟩ F.sub_list_dict F.slot_dict_eq hq)
    (fun _ hq => call_meets F.slot_list_eq_refl ⟨_, ho, rfl⟩ F.entry_list_eq (F.args_list_eq_2 _ _) (list_eq_dict l a items n dd sl ep) ⟨ho, hn, hq⟩)
    (fun _ hq => wpAny_isSame_ref_other (Ne.symm hne) hn ho (by simp [emptyD]) hq) (.inr hu) h
theorem eq_list_nil {l : Addr} {items : Array Value} (hl : s.heap.IsList l items) {a : Addr} (x : IsNil s.heap a) (hu : A.units < cLine) : EqAt A s (.ref l) (.ref a) false := .of_refs (fun e => by obtain ⟨o, ho, hc, _⟩ := hl; obtain ⟨⟨ep, hn⟩, _⟩ := x; subst e; rw [ho] at hn; cases hn; exact absurd hc (by simp [emptyD])) (rc_list_nil hl x hu)
theorem eq_nil_list {l : Addr} {items : Array Value} (hl : s.heap.IsList l items) {a : Addr} (x : IsNil s.heap a) (hu : A.units < cLine) : EqAt A s (.ref a) (.ref l) false := .of_refs (fun e => by obtain ⟨o, ho, hc, _⟩ := hl; obtain ⟨⟨ep, hn⟩, _⟩ := x; subst e; rw [ho] at hn; cases hn; exact absurd hc (by simp [emptyD])) (rc_nil_list hl x hu)
theorem rc_tuple_nil {l : Addr} {items : Array Value} (hl : s.heap.IsTuple l items) {a : Addr} (x : IsNil s.heap a) (hu : A.units < cLine) : RcAt A s (.ref l) (.ref a) false := fun prog w E Q h => by
  obtain ⟨ep, hn⟩ := x.ty
  obtain ⟨⟨cls, dd, data, sl⟩, ho, hc, n, hd⟩ := id hl
  simp only at hc hd
  subst hc hd
  have hne : l ≠ a := fun e => by subst e; rw [ho] at hn; exact absurd (congrArg (·.cls) (Option.some.inj hn)) (by simp [emptyD])
  exact rc_eq_decline_or (k := false) ⟨_, ho, rfl⟩ ⟨_, hn, rfl⟩ (by decide) F.sub_dict_tuple F.slot_tuple_eq F.slot_dict_eq_refl
    (fun _ hq => call_meets F.slot_tuple_eq ⟨_, ho, rfl⟩ F.entry_tuple_eq (F.args_tuple_eq_2 _ _) (tuple_eq_dict l a items n dd sl ep) ⟨ho, hn, hq⟩)
    (fun _ hq => dict_eq_declines x ⟨_, ho, rfl⟩ F.sub_tuple_dict F.slot_dict_eq_refl hq)
    (fun _ hq => wpAny_isSame_ref_other' hne ho hn (by simp [emptyD]) hq) (.inr hu) h
theorem rc_nil_tuple {l : Addr} {items : Array Value} (hl : s.heap.IsTuple l items) {a : Addr} (x : IsNil s.heap a) (hu : A.units < cLine) : RcAt A s (.ref a) (.ref l) false := fun prog w E Q h => by
  obtain ⟨ep, hn⟩ := x.ty
  obtain ⟨⟨cls, dd, data, sl⟩, ho, hc, n, hd⟩ := id hl
  simp only at hc hd
  subst hc hd
  have hne : l ≠ a := fun e => by subst e; rw [ho] at hn; exact absurd (congrArg (·.cls) (Option.some.inj hn)) (by simp [emptyD])
  exact rc_eq_decline_or (k := false) ⟨_, hn, rfl⟩ ⟨_, ho, rfl⟩ (by decide) F.sub_tuple_dict F.slot_dict_eq F.slot_tuple_eq_refl
    (fun _ hq => dict_eq_declines x ⟨_, ho, rfl⟩ F.sub_tuple_dict F.slot_dict_eq hq)
    (fun _ hq => call_meets F.slot_tuple_eq_refl ⟨_, ho, rfl⟩ F.entry_tuple_eq (F.args_tuple_eq_2 _ _) (tuple_eq_dict l a items n dd sl ep) ⟨ho, hn, hq⟩)
    (fun _ hq => wpAny_isSame_ref_other (Ne.symm hne) hn ho (by simp [emptyD]) hq) (.inr hu) h
theorem eq_tuple_nil {l : Addr} {items : Array Value} (hl : s.heap.IsTuple l items) {a : Addr} (x : IsNil s.heap a) (hu : A.units < cLine) : EqAt A s (.ref l) (.ref a) false := .of_refs (fun e => by obtain ⟨o, ho, hc, _⟩ := hl; obtain ⟨⟨ep, hn⟩, _⟩ := x; subst e; rw [ho] at hn; cases hn; exact absurd hc (by simp [emptyD])) (rc_tuple_nil hl x hu)
theorem eq_nil_tuple {l : Addr} {items : Array Value} (hl : s.heap.IsTuple l items) {a : Addr} (x : IsNil s.heap a) (hu : A.units < cLine) : EqAt A s (.ref a) (.ref l) false := .of_refs (fun e => by obtain ⟨o, ho, hc, _⟩ := hl; obtain ⟨⟨ep, hn⟩, _⟩ := x; subst e; rw [ho] at hn; cases hn; exact absurd hc (by simp [emptyD])) (rc_nil_tuple hl x hu)
theorem IsNil.dictOf {h : Heap} {a : Addr} (x : IsNil h a) (knd : KeyKind prog w Key) : h.DictOf knd a [] := by
  obtain ⟨⟨ep, ho⟩, _⟩ := x
  exact ⟨_, #[], ep, ho, ⟨rfl, rfl, rfl⟩, rfl, fun e he => by simp at he, .nil, List.nodup_nil⟩
theorem rc_nils {a b : Addr} (x : IsNil s.heap a) (y : IsNil s.heap b) (hu : A.units < cLine) : RcAt A s (.ref a) (.ref b) true := fun prog w E Q h =>
  PySem.W.rcP_dicts (knd := mixKind prog w) (r := true) x.2 y.2 (x.dictOf _) (y.dictOf _) hu (fun _ => .nil) E Q h
theorem eq_nils {a b : Addr} (x : IsNil s.heap a) (y : IsNil s.heap b) (hu : A.units < cLine) : EqAt A s (.ref a) (.ref b) true := by
  by_cases e : a = b
  · subst e; exact .same _
  · exact .of_refs e (rc_nils x y hu)
end
/-! ### equality of data -/
mutual
def peq : PyData → PyData → Bool
  | .none, .none => true
  | .bool a, .bool b => a == b
  | .bool a, .int j => (if a then 1 else 0) == j
  | .int i, .bool b => i == (if b then 1 else 0)
  | .int i, .int j => i == j
  | .str x, .str y => x == y
  | .list xs, .list ys => peqL xs ys
  | .tuple xs, .tuple ys => peqL xs ys
  | .dict _, .dict _ => true
  | _, _ => false
def peqL : List PyData → List PyData → Bool
  | [], [] => true
  | x :: xs, y :: ys => peq x y && peqL xs ys
  | _, _ => false
end
mutual
inductive Rx (h : Heap) : Value → PyData → Prop
  | non : Rx h .none .none
  | bl (b : Bool) : Rx h (.bool b) (.bool b)
  | int (i : Int) (t : Tok) : Rx h (.int i t) (.int i)
  | str (x : Str) (t : Tok) : Rx h (.str x t) (.str x)
  | lst {l : Addr} {vs : Array Value} {ds : List PyData} : h.IsList l vs → RxL h vs.toList ds → Rx h (.ref l) (.list ds)
  | tup {l : Addr} {vs : Array Value} {ds : List PyData} : h.IsTuple l vs → RxL h vs.toList ds → Rx h (.ref l) (.tuple ds)
  | odd {a : Addr} : IsNil h a → Rx h (.ref a) (.dict [])
inductive RxL (h : Heap) : List Value → List PyData → Prop
  | nil : RxL h [] []
  | cons {v : Value} {vs : List Value} {d : PyData} {ds : List PyData} : Rx h v d → RxL h vs ds → RxL h (v :: vs) (d :: ds)
end
section
variable {h : Heap}
theorem RxL.length : ∀ {vs : List Value} {ds : List PyData}, RxL h vs ds → vs.length = ds.length
  | _, _, .nil => rfl
  | _, _, .cons _ q => by rw [List.length_cons, List.length_cons, RxL.length q]
theorem isList_det {l : Addr} {xs ys : Array Value} (a : h.IsList l xs) (b : h.IsList l ys) : xs = ys := by
  obtain ⟨o, ho, _, n, hd⟩ := a
  obtain ⟨o2, ho2, _, n2, hd2⟩ := b
  rw [ho] at ho2; cases ho2
  rw [hd] at hd2; cases hd2; rfl
theorem isTuple_det {l : Addr} {xs ys : Array Value} (a : h.IsTuple l xs) (b : h.IsTuple l ys) : xs = ys := by
  obtain ⟨o, ho, _, n, hd⟩ := a
  obtain ⟨o2, ho2, _, n2, hd2⟩ := b
  rw [ho] at ho2; cases ho2
  rw [hd] at hd2; cases hd2; rfl
mutual
/-- two readings of one thing are equal -/
theorem Rx.same : ∀ {d e : PyData} {v : Value}, Rx h v d → Rx h v e → (∀ a : Addr, v = .ref a → (∃ xs, d = .list xs ∧ ∃ ys, e = .list ys) ∨ (∃ xs, d = .tuple xs ∧ ∃ ys, e = .tuple ys) ∨ (d = .dict [] ∧ e = .dict [])) → peq d e = true
  | .none, _, _, .non, b, _ => by cases b; rfl
  | .bool x, _, _, .bl _, b, _ => by cases b; simp [peq]
  | .int i, _, _, .int _ _, b, _ => by cases b; simp [peq]
  | .str x, _, _, .str _ _, b, _ => by cases b; simp [peq]
  | .list xs, _, _, .lst q1 q2, b, k => by
    rcases k _ rfl with ⟨_, _, ys, rfl⟩ | ⟨_, e, _⟩ | ⟨e, _⟩
    · cases b with
      | lst k1 k2 => cases isList_det q1 k1; rw [peq]; exact RxL.same q2 k2
    · cases e
    · cases e
  | .tuple xs, _, _, .tup q1 q2, b, k => by
    rcases k _ rfl with ⟨_, e, _⟩ | ⟨_, _, ys, rfl⟩ | ⟨e, _⟩
    · cases e
    · cases b with
      | tup k1 k2 => cases isTuple_det q1 k1; rw [peq]; exact RxL.same q2 k2
    · cases e
  | .dict _, _, _, .odd _, b, k => by
    rcases k _ rfl with ⟨_, e, _⟩ | ⟨_, e, _⟩ | ⟨_, e⟩
    · cases e
    · cases e
    · subst e; rfl
theorem RxL.same : ∀ {ds es : List PyData} {vs : List Value}, RxL h vs ds → RxL h vs es → peqL ds es = true
  | [], _, _, .nil, b => by cases b; rfl
  | d :: ds, _, _, .cons q1 q2, b => by
    cases b with
    | cons k1 k2 =>
      rw [peqL, RxL.same q2 k2, Bool.and_true]
      refine Rx.same q1 k1 fun a ea => ?_
      subst ea
      cases q1 with
      | lst p1 p2 =>
        cases k1 with
        | lst => exact .inl ⟨_, rfl, _, rfl⟩
        | tup p3 p4 => obtain ⟨o, ho, hc, _⟩ := p1; obtain ⟨o2, ho2, hc2, _⟩ := p3; rw [ho] at ho2; cases ho2; rw [hc] at hc2; exact absurd hc2 (by simp)
        | odd p3 => obtain ⟨o, ho, hc, _⟩ := p1; obtain ⟨⟨ep, hn⟩, _⟩ := p3; rw [ho] at hn; cases hn; exact absurd hc (by simp [emptyD])
      | tup p1 p2 =>
        cases k1 with
        | lst p3 p4 => obtain ⟨o, ho, hc, _⟩ := p1; obtain ⟨o2, ho2, hc2, _⟩ := p3; rw [ho] at ho2; cases ho2; rw [hc] at hc2; exact absurd hc2 (by simp)
        | tup => exact .inr (.inl ⟨_, rfl, _, rfl⟩)
        | odd p3 => obtain ⟨o, ho, hc, _⟩ := p1; obtain ⟨⟨ep, hn⟩, _⟩ := p3; rw [ho] at hn; cases hn; exact absurd hc (by simp [emptyD])
      | odd p1 =>
        cases k1 with
        | lst p3 p4 => obtain ⟨o, ho, hc, _⟩ := p3; obtain ⟨⟨ep, hn⟩, _⟩ := p1; rw [ho] at hn; cases hn; exact absurd hc (by simp [emptyD])
        | tup p3 p4 => obtain ⟨o, ho, hc, _⟩ := p3; obtain ⟨⟨ep, hn⟩, _⟩ := p1; rw [ho] at hn; cases hn; exact absurd hc (by simp [emptyD])
        | odd => exact .inr (.inr ⟨rfl, rfl⟩)
end
abbrev pairP (xs ys : List PyData) (j : Nat) : Bool := peq (xs.getD j .none) (ys.getD j .none)
theorem peqL_eq : ∀ xs ys : List PyData, ((List.range (min xs.length ys.length)).all (pairP xs ys) && xs.length == ys.length) = peqL xs ys
  | [], [] => rfl
  | [], _ :: _ => by simp [peqL]
  | _ :: _, [] => by simp [peqL]
  | x :: xs, y :: ys => by
    have ih := peqL_eq xs ys
    have e1 : min (x :: xs).length (y :: ys).length = min xs.length ys.length + 1 := by simp only [List.length_cons]; omega
    have e2 : ((x :: xs).length == (y :: ys).length) = (xs.length == ys.length) := by simp
    have e3 : (List.range (min xs.length ys.length + 1)).all (pairP (x :: xs) (y :: ys)) = (peq x y && (List.range (min xs.length ys.length)).all (pairP xs ys)) := by
      rw [List.range_succ_eq_map, List.all_cons, List.all_map]
      first | rfl | simp [pairP, Function.comp_def]
    rw [e1, e2, e3, peqL, ← ih, Bool.and_assoc]
theorem peqL_same {xs ys : List PyData} (h : xs.length = ys.length) : (List.range xs.length).all (pairP xs ys) = peqL xs ys := by
  have := peqL_eq xs ys
  rw [← h, Nat.min_self] at this
  simpa using this
theorem peqL_other {xs ys : List PyData} (h : xs.length ≠ ys.length) : peqL xs ys = false := by
  rw [← peqL_eq xs ys]
  simp [h]
end
theorem rm_here {u a b : Nat} (h : u + min (a + 1) (b + 1) < cLine) : u < cLine := by omega
theorem rm_in {u a b : Nat} (h : u + min (1 + a) (1 + b) < cLine) : u + 1 + min a b < cLine := by omega
mutual
theorem eq_rx : ∀ (da db : PyData) (A : Around) (s : Shared) (a b : Value), Rx s.heap a da → Rx s.heap b db → A.units + 1 + min da.depth db.depth < cLine → EqAt A s a b (peq da db)
  | .none, _, A, s, _, _, ra, rb, hu => by
    cases ra
    cases rb with
    | non => exact .same _
    | bl y => exact .none_bool y
    | int y u => exact .none_int y u
    | str y u => exact .none_str y u
    | lst k1 k2 => exact .none_list k1 (by omega)
    | tup k1 k2 => exact .none_tuple k1 (by omega)
    | odd k => exact eq_none_nil k (by omega)
  | .bool x, _, A, s, _, _, ra, rb, hu => by
    cases ra
    cases rb with
    | non => exact .bool_none x
    | bl y => exact .bool_bool x y
    | int y u => exact .bool_int x y u
    | str y u => exact .bool_str x y u
    | lst k1 k2 => exact .bool_list x k1 (by omega)
    | tup k1 k2 => exact .bool_tuple x k1 (by omega)
    | odd k => exact eq_bool_nil x k (by omega)
  | .int x, _, A, s, _, _, ra, rb, hu => by
    cases ra with
    | int _ t =>
      cases rb with
      | non => exact .int_none x t
      | bl y => exact .int_bool x t y
      | int y u => exact .int_int x t y u
      | str y u => exact .int_str x t y u
      | lst k1 k2 => exact .int_list x t k1 (by omega)
      | tup k1 k2 => exact .int_tuple x t k1 (by omega)
      | odd k => exact eq_int_nil x t k (by omega)
  | .str x, _, A, s, _, _, ra, rb, hu => by
    cases ra with
    | str _ t =>
      cases rb with
      | non => exact .str_none x t
      | bl y => exact .str_bool x t y
      | int y u => exact .str_int x t y u
      | str y u => exact .str_str x t y u
      | lst k1 k2 => exact .str_list x t k1 (by omega)
      | tup k1 k2 => exact .str_tuple x t k1 (by omega)
      | odd k => exact eq_str_nil x t k (by omega)
  | .list xs, db, A, s, _, _, ra, rb, hu => by
    cases ra with
    | @lst l vs _ h3 h4 =>
      cases rb with
      | non => exact .list_none h3 (by omega)
      | bl y => exact .list_bool y h3 (by omega)
      | int y u => exact .list_int y u h3 (by omega)
      | str y u => exact .list_str y u h3 (by omega)
      | tup k1 k2 => exact .list_tuple h3 k1 (by omega)
      | odd k => exact eq_list_nil h3 k (by omega)
      | @lst l' vs' ys k3 k4 =>
        have n1 : vs.size = xs.length := by simpa using h4.length
        have n2 : vs'.size = ys.length := by simpa using k4.length
        show EqAt A s (.ref l) (.ref l') (peqL xs ys)
        by_cases hll : l = l'
        · subst hll
          cases isList_det h3 k3
          rw [RxL.same h4 k4]
          exact .same _
        · by_cases hsz : vs.size = vs'.size
          · rw [← peqL_same (by omega : xs.length = ys.length), ← n1]
            refine .of_refs hll (.lists h3 k3 hsz (by omega) fun j j1 j2 => ?_)
            have := eq_rxL xs ys A.in1 s vs.toList vs'.toList h4 k4 (by
              simp only [PyData.depth] at hu
              show A.units + 1 + 1 + min (PyData.depthAll xs) (PyData.depthAll ys) < cLine
              omega) j (by simpa using j1) (by simpa using j2)
            simpa using this
          · rw [peqL_other (by omega : xs.length ≠ ys.length)]
            exact .of_refs hll (.lists_lengths h3 k3 (by simpa using hsz) (by omega))
  | .tuple xs, db, A, s, _, _, ra, rb, hu => by
    cases ra with
    | @tup l vs _ h3 h4 =>
      cases rb with
      | non => exact .tuple_none h3 (by omega)
      | bl y => exact .tuple_bool y h3 (by omega)
      | int y u => exact .tuple_int y u h3 (by omega)
      | str y u => exact .tuple_str y u h3 (by omega)
      | lst k1 k2 => exact .tuple_list h3 k1 (by omega)
      | odd k => exact eq_tuple_nil h3 k (by omega)
      | @tup l' vs' ys k3 k4 =>
        have n1 : vs.size = xs.length := by simpa using h4.length
        have n2 : vs'.size = ys.length := by simpa using k4.length
        show EqAt A s (.ref l) (.ref l') (peqL xs ys)
        by_cases hll : l = l'
        · subst hll
          cases isTuple_det h3 k3
          rw [RxL.same h4 k4]
          exact .same _
        · rw [← peqL_eq xs ys, ← n1, ← n2]
          refine .of_refs hll (.tuples h3 k3 (by omega) fun j j1 j2 => ?_)
          have := eq_rxL xs ys A.in1 s vs.toList vs'.toList h4 k4 (by
            simp only [PyData.depth] at hu
            show A.units + 1 + 1 + min (PyData.depthAll xs) (PyData.depthAll ys) < cLine
            omega) j (by simpa using j1) (by simpa using j2)
          simpa using this
  | .dict _, _, A, s, _, _, ra, rb, hu => by
    cases ra with
    | odd k =>
      cases rb with
      | non => exact eq_nil_none k (by omega)
      | bl y => exact eq_nil_bool y k (by omega)
      | int y u => exact eq_nil_int y u k (by omega)
      | str y u => exact eq_nil_str y u k (by omega)
      | lst k1 k2 => exact eq_nil_list k1 k (by omega)
      | tup k1 k2 => exact eq_nil_tuple k1 k (by omega)
      | odd k' => exact eq_nils k k' (by omega)
theorem eq_rxL : ∀ (xs ys : List PyData) (A : Around) (s : Shared) (vs ws : List Value), RxL s.heap vs xs → RxL s.heap ws ys → A.units + 1 + min (PyData.depthAll xs) (PyData.depthAll ys) < cLine →
    ∀ j (h1 : j < vs.length) (h2 : j < ws.length), EqAt A s vs[j] ws[j] (pairP xs ys j)
  | [], _, _, _, _, _, ra, _, _, j, h1, _ => by cases ra; exact absurd h1 (Nat.not_lt_zero _)
  | _ :: _, [], _, _, _, _, _, rb, _, j, _, h2 => by cases rb; exact absurd h2 (Nat.not_lt_zero _)
  | x :: xs, y :: ys, A, s, _, _, ra, rb, hu, j, h1, h2 => by
    cases ra with
    | cons r rs =>
      cases rb with
      | cons r' rs' =>
        simp only [PyData.depthAll] at hu
        cases j with
        | zero => exact eq_rx x y A s _ _ r r' (by omega)
        | succ j => exact eq_rxL xs ys A s _ _ rs rs' (by omega) j (Nat.lt_of_succ_lt_succ h1) (Nat.lt_of_succ_lt_succ h2)
end
def noD : PyData → Bool
  | .dict _ => false
  | _ => true
theorem rc_rx {da db : PyData} {A : Around} {s : Shared} {a b : Value} (ra : Rx s.heap a da) (rb : Rx s.heap b db) (na : noD da = true) (nb : noD db = true) (hu : A.units + 1 + min da.depth db.depth < cLine) : RcAt A s a b (peq da db) := by
  have hu1 : A.units < cLine := by omega
  cases ra with
  | non =>
    cases rb with
    | non => exact RcAt.none_none
    | bl y => exact RcAt.none_bool y
    | int y u => exact RcAt.none_int y u
    | str y u => exact RcAt.none_str y u
    | lst k1 k2 => exact RcAt.none_list k1 hu1
    | tup k1 k2 => exact RcAt.none_tuple k1 hu1
    | odd k => exact nomatch nb
  | bl x =>
    cases rb with
    | non => exact RcAt.bool_none x
    | bl y => exact RcAt.bool_bool x y
    | int y u => exact RcAt.bool_int x y u
    | str y u => exact RcAt.bool_str x y u
    | lst k1 k2 => exact RcAt.bool_list x k1 hu1
    | tup k1 k2 => exact RcAt.bool_tuple x k1 hu1
    | odd k => exact nomatch nb
  | int x t =>
    cases rb with
    | non => exact RcAt.int_none x t
    | bl y => exact RcAt.int_bool x t y
    | int y u => exact RcAt.int_int x t y u
    | str y u => exact RcAt.int_str x t y u
    | lst k1 k2 => exact RcAt.int_list x t k1 hu1
    | tup k1 k2 => exact RcAt.int_tuple x t k1 hu1
    | odd k => exact nomatch nb
  | str x t =>
    cases rb with
    | non => exact RcAt.str_none x t
    | bl y => exact RcAt.str_bool x t y
    | int y u => exact RcAt.str_int x t y u
    | str y u => exact RcAt.str_str x t y u
    | lst k1 k2 => exact RcAt.str_list x t k1 hu1
    | tup k1 k2 => exact RcAt.str_tuple x t k1 hu1
    | odd k => exact nomatch nb
  | @lst l vs xs h3 h4 =>
    cases rb with
    | non => exact RcAt.list_none h3 hu1
    | bl y => exact RcAt.list_bool y h3 hu1
    | int y u => exact RcAt.list_int y u h3 hu1
    | str y u => exact RcAt.list_str y u h3 hu1
    | tup k1 k2 => exact RcAt.list_tuple h3 k1 hu1
    | odd k => exact nomatch nb
    | @lst l' vs' ys k3 k4 =>
      have n1 : vs.size = xs.length := by simpa using h4.length
      have n2 : vs'.size = ys.length := by simpa using k4.length
      have he : ∀ j (j1 : j < vs.size) (j2 : j < vs'.size), EqAt A.in1 s vs[j] vs'[j] (pairP xs ys j) := fun j j1 j2 => by
        have := eq_rxL xs ys A.in1 s vs.toList vs'.toList h4 k4 (by
          simp only [PyData.depth] at hu
          show A.units + 1 + 1 + min (PyData.depthAll xs) (PyData.depthAll ys) < cLine
          omega) j (by simpa using j1) (by simpa using j2)
        simpa using this
      show RcAt A s (.ref l) (.ref l') (peqL xs ys)
      by_cases hsz : vs.size = vs'.size
      · rw [← peqL_same (by omega : xs.length = ys.length), ← n1]
        exact RcAt.lists h3 k3 hsz hu1 he
      · rw [peqL_other (by omega : xs.length ≠ ys.length)]
        exact RcAt.lists_lengths h3 k3 (by simpa using hsz) hu1
  | @tup l vs xs h3 h4 =>
    cases rb with
    | non => exact RcAt.tuple_none h3 hu1
    | bl y => exact RcAt.tuple_bool y h3 hu1
    | int y u => exact RcAt.tuple_int y u h3 hu1
    | str y u => exact RcAt.tuple_str y u h3 hu1
    | lst k1 k2 => exact RcAt.tuple_list h3 k1 hu1
    | odd k => exact nomatch nb
    | @tup l' vs' ys k3 k4 =>
      have n1 : vs.size = xs.length := by simpa using h4.length
      have n2 : vs'.size = ys.length := by simpa using k4.length
      have he : ∀ j (j1 : j < vs.size) (j2 : j < vs'.size), EqAt A.in1 s vs[j] vs'[j] (pairP xs ys j) := fun j j1 j2 => by
        have := eq_rxL xs ys A.in1 s vs.toList vs'.toList h4 k4 (by
          simp only [PyData.depth] at hu
          show A.units + 1 + 1 + min (PyData.depthAll xs) (PyData.depthAll ys) < cLine
          omega) j (by simpa using j1) (by simpa using j2)
        simpa using this
      show RcAt A s (.ref l) (.ref l') (peqL xs ys)
      rw [← peqL_eq xs ys, ← n1, ← n2]
      exact RcAt.tuples h3 k3 hu1 he
  | odd k => exact nomatch na
theorem rn_rx {da db : PyData} {A : Around} {s : Shared} {a b : Value} (ra : Rx s.heap a da) (rb : Rx s.heap b db) (na : noD da = true) (nb : noD db = true) (hu : A.units + 1 + min da.depth db.depth < cLine) : RcNeAt A s a b (!peq da db) := by
  have hu1 : A.units < cLine := by omega
  cases ra with
  | non =>
    cases rb with
    | non => exact RcNeAt.none_none
    | bl y => exact RcNeAt.none_bool y
    | int y u => exact RcNeAt.none_int y u
    | str y u => exact RcNeAt.none_str y u
    | lst k1 k2 => exact RcNeAt.none_list k1 hu1
    | tup k1 k2 => exact RcNeAt.none_tuple k1 hu1
    | odd k => exact nomatch nb
  | bl x =>
    cases rb with
    | non => exact RcNeAt.bool_none x
    | bl y => exact RcNeAt.bool_bool x y
    | int y u => exact RcNeAt.bool_int x y u
    | str y u => exact RcNeAt.bool_str x y u
    | lst k1 k2 => exact RcNeAt.bool_list x k1 hu1
    | tup k1 k2 => exact RcNeAt.bool_tuple x k1 hu1
    | odd k => exact nomatch nb
  | int x t =>
    cases rb with
    | non => exact RcNeAt.int_none x t
    | bl y => exact RcNeAt.int_bool x t y
    | int y u => exact RcNeAt.int_int x t y u
    | str y u => exact RcNeAt.int_str x t y u
    | lst k1 k2 => exact RcNeAt.int_list x t k1 hu1
    | tup k1 k2 => exact RcNeAt.int_tuple x t k1 hu1
    | odd k => exact nomatch nb
  | str x t =>
    cases rb with
    | non => exact RcNeAt.str_none x t
    | bl y => exact RcNeAt.str_bool x t y
    | int y u => exact RcNeAt.str_int x t y u
    | str y u => exact RcNeAt.str_str x t y u
    | lst k1 k2 => exact RcNeAt.str_list x t k1 hu1
    | tup k1 k2 => exact RcNeAt.str_tuple x t k1 hu1
    | odd k => exact nomatch nb
  | @lst l vs xs h3 h4 =>
    cases rb with
    | non => exact RcNeAt.list_none h3 hu1
    | bl y => exact RcNeAt.list_bool y h3 hu1
    | int y u => exact RcNeAt.list_int y u h3 hu1
    | str y u => exact RcNeAt.list_str y u h3 hu1
    | tup k1 k2 => exact RcNeAt.list_tuple h3 k1 hu1
    | odd k => exact nomatch nb
    | @lst l' vs' ys k3 k4 =>
      have n1 : vs.size = xs.length := by simpa using h4.length
      have n2 : vs'.size = ys.length := by simpa using k4.length
      have he : ∀ j (j1 : j < vs.size) (j2 : j < vs'.size), EqAt A.in1 s vs[j] vs'[j] (pairP xs ys j) := fun j j1 j2 => by
        have := eq_rxL xs ys A.in1 s vs.toList vs'.toList h4 k4 (by
          simp only [PyData.depth] at hu
          show A.units + 1 + 1 + min (PyData.depthAll xs) (PyData.depthAll ys) < cLine
          omega) j (by simpa using j1) (by simpa using j2)
        simpa using this
      show RcNeAt A s (.ref l) (.ref l') (!peqL xs ys)
      by_cases hsz : vs.size = vs'.size
      · rw [← peqL_same (by omega : xs.length = ys.length), ← n1]
        exact RcNeAt.lists h3 k3 hsz hu1 he
      · rw [peqL_other (by omega : xs.length ≠ ys.length)]
        exact RcNeAt.lists_lengths h3 k3 (by simpa using hsz) hu1
  | @tup l vs xs h3 h4 =>
    cases rb with
    | non => exact RcNeAt.tuple_none h3 hu1
    | bl y => exact RcNeAt.tuple_bool y h3 hu1
    | int y u => exact RcNeAt.tuple_int y u h3 hu1
    | str y u => exact RcNeAt.tuple_str y u h3 hu1
    | lst k1 k2 => exact RcNeAt.tuple_list h3 k1 hu1
    | odd k => exact nomatch nb
    | @tup l' vs' ys k3 k4 =>
      have n1 : vs.size = xs.length := by simpa using h4.length
      have n2 : vs'.size = ys.length := by simpa using k4.length
      have he : ∀ j (j1 : j < vs.size) (j2 : j < vs'.size), EqAt A.in1 s vs[j] vs'[j] (pairP xs ys j) := fun j j1 j2 => by
        have := eq_rxL xs ys A.in1 s vs.toList vs'.toList h4 k4 (by
          simp only [PyData.depth] at hu
          show A.units + 1 + 1 + min (PyData.depthAll xs) (PyData.depthAll ys) < cLine
          omega) j (by simpa using j1) (by simpa using j2)
        simpa using this
      show RcNeAt A s (.ref l) (.ref l') (!peqL xs ys)
      rw [← peqL_eq xs ys, ← n1, ← n2]
      exact RcNeAt.tuples h3 k3 hu1 he
  | odd k => exact nomatch na
section
variable {X : Cx} {pins : List (Addr × Obj)} {σ : L2.St} {H F : Hp} {s : Shared}
theorem isNil_of (I : Inv X pins σ H s) {a : Addr} (h : H a = some (.dK [])) : IsNil s.heap a := by
  obtain ⟨_, y, vs, r, o, es, ep, ho, ⟨c1, c2, c3⟩, hd, _, hp, _⟩ := (show ObjOk X.prog X.w H s.heap a (.dK []) from I.hok a _ h)
  refine ⟨⟨ep, ?_⟩, y⟩
  cases r
  have e : es = #[] := by
    have := hp.length
    simp at this
    exact this
  subst e
  obtain ⟨cls, dd, data, sl⟩ := o
  simp only at c1 c2 c3 hd
  subst c1 c2 c3 hd
  exact ho
mutual
theorem Rp.rx (I : Inv X pins σ H s) (hs : Same F H) : ∀ (d : PyData) (v : V) (u : Value), Rp X.K F v d → RelV v u → Rx s.heap u d
  | .none, _, _, h, r => by cases h; cases r; exact .non
  | .bool b, _, _, h, r => by cases h; cases r; exact .bl b
  | .int i, _, _, h, r => by cases h; obtain ⟨t, rfl⟩ := r; exact .int i t
  | .str x, _, _, h, r => by cases h; obtain ⟨t, rfl⟩ := r; exact .str x t
  | .list ds, _, _, h, r => by
    cases h with
    | lst q1 q2 =>
      cases r
      obtain ⟨its, rv, ⟨o, n, ho, hc, _, hd⟩, _⟩ := I.list (hs.seq q1)
      exact .lst (vs := its.toArray) ⟨o, ho, hc, n, hd⟩ (RpL.rx I hs ds _ its q2 rv)
  | .tuple ds, _, _, h, r => by
    cases h with
    | tup q1 q2 =>
      cases r
      obtain ⟨its, rv, ht, _⟩ := I.tuple (sqT_mono hs q1)
      exact .tup (vs := its.toArray) ht (RpL.rx I hs ds _ its q2 rv)
  | .dict _, _, _, h, r => by
    cases h with
    | odd q => cases r; exact .odd (isNil_of I (hs _ _ q))
theorem RpL.rx (I : Inv X pins σ H s) (hs : Same F H) : ∀ (ds : List PyData) (vs : List V) (us : List Value), RpL X.K F vs ds → Vals vs us → RxL s.heap us ds
  | [], _, _, h, r => by cases h; cases r; exact .nil
  | d :: ds, _, _, h, r => by
    cases h with
    | cons q1 q2 =>
      cases r with
      | cons r1 r2 => exact .cons (Rp.rx I hs d _ _ q1 r1) (RpL.rx I hs ds _ _ q2 r2)
end
end
section
variable {X : Cx}
def rEqP (K : PySem.W.Frag) : R2 := fun x y H Q => ∃ F d e, Same F H ∧ Rp K F x d ∧ Rp K F y e ∧ noD d = true ∧ noD e = true ∧ min d.depth e.depth ≤ 60 ∧ Q (.bl (peq d e)) H
def rNeP (K : PySem.W.Frag) : R2 := fun x y H Q => ∃ F d e, Same F H ∧ Rp K F x d ∧ Rp K F y e ∧ noD d = true ∧ noD e = true ∧ min d.depth e.depth ≤ 60 ∧ Q (.bl (!peq d e)) H
def rInP (K : PySem.W.Frag) : R2 := fun x y H Q => ∃ F d ds, Same F H ∧ Rp K F x d ∧ Rp K F y (.list ds) ∧ PyData.depthAll ds ≤ 60 ∧ Q (.bl (ds.any fun z => peq z d)) H
def rNiP (K : PySem.W.Frag) : R2 := fun x y H Q => ∃ F d ds, Same F H ∧ Rp K F x d ∧ Rp K F y (.list ds) ∧ PyData.depthAll ds ≤ 60 ∧ Q (.bl (!ds.any fun z => peq z d)) H
theorem op_eqP (hu : X.A.units + 64 < cLine) : OpR X (compareOp .Eq) (rEqP X.K) := by
  intro pins s σ H x y v u Q I rx ry h
  obtain ⟨F, d, e, hs, hd, he, nd, ne, hm, q⟩ := h
  exact rc_rx (Rp.rx I hs _ _ _ hd rx) (Rp.rx I hs _ _ _ he ry) nd ne (by omega) _ _ _ _ ⟨.bl _, H, I, rfl, q⟩
theorem op_neP (hu : X.A.units + 64 < cLine) : OpR X (compareOp .NotEq) (rNeP X.K) := by
  intro pins s σ H x y v u Q I rx ry h
  obtain ⟨F, d, e, hs, hd, he, nd, ne, hm, q⟩ := h
  exact rn_rx (Rp.rx I hs _ _ _ hd rx) (Rp.rx I hs _ _ _ he ry) nd ne (by omega) _ _ _ _ ⟨.bl _, H, I, rfl, q⟩
theorem depth_mem : ∀ {ds : List PyData} {d : PyData}, d ∈ ds → d.depth ≤ PyData.depthAll ds
  | e :: ds, d, h => by
    simp only [PyData.depthAll]
    rcases List.mem_cons.mp h with rfl | h
    · omega
    · have := depth_mem h; omega
end
end Z
/-! ZR: in, not in, remove by data. -/
namespace Z
open PySem L2 PySem.SeqAt
open AutoSeq1 (wpAny_loadPart')
open MeetsSeq
open Enc (enc)
section
variable {h : Heap}
theorem isList_not {a : Addr} {xs ys : Array Value} (p : h.IsList a xs) (q : h.IsTuple a ys) : False := by
  obtain ⟨o, ho, hc, _⟩ := p
  obtain ⟨o2, ho2, hc2, _⟩ := q
  rw [ho] at ho2; cases ho2; rw [hc] at hc2; exact absurd hc2 (by simp)
theorem isList_nil {a : Addr} {xs : Array Value} (p : h.IsList a xs) (q : IsNil h a) : False := by
  obtain ⟨o, ho, hc, _⟩ := p
  obtain ⟨⟨ep, hn⟩, _⟩ := q
  rw [ho] at hn; cases hn; exact absurd hc (by simp [emptyD])
theorem isTuple_nil {a : Addr} {xs : Array Value} (p : h.IsTuple a xs) (q : IsNil h a) : False := by
  obtain ⟨o, ho, hc, _⟩ := p
  obtain ⟨⟨ep, hn⟩, _⟩ := q
  rw [ho] at hn; cases hn; exact absurd hc (by simp [emptyD])
mutual
theorem Rx.det : ∀ (d e : PyData) (v : Value), Rx h v d → Rx h v e → d = e
  | .none, _, _, p, q => by cases p; cases q; rfl
  | .bool _, _, _, p, q => by cases p; cases q; rfl
  | .int _, _, _, p, q => by cases p; cases q; rfl
  | .str _, _, _, p, q => by cases p; cases q; rfl
  | .list xs, _, _, p, q => by
    cases p with
    | lst p1 p2 =>
      cases q with
      | lst q1 q2 => cases isList_det p1 q1; rw [RxL.det xs _ _ p2 q2]
      | tup q1 q2 => exact (isList_not p1 q1).elim
      | odd q1 => exact (isList_nil p1 q1).elim
  | .tuple xs, _, _, p, q => by
    cases p with
    | tup p1 p2 =>
      cases q with
      | tup q1 q2 => cases isTuple_det p1 q1; rw [RxL.det xs _ _ p2 q2]
      | lst q1 q2 => exact (isList_not q1 p1).elim
      | odd q1 => exact (isTuple_nil p1 q1).elim
  | .dict _, _, _, p, q => by
    cases p with
    | odd p1 =>
      cases q with
      | odd _ => rfl
      | lst q1 _ => exact (isList_nil q1 p1).elim
      | tup q1 _ => exact (isTuple_nil q1 p1).elim
theorem RxL.det : ∀ (ds es : List PyData) (vs : List Value), RxL h vs ds → RxL h vs es → ds = es
  | [], _, _, p, q => by cases p; cases q; rfl
  | d :: ds, _, _, p, q => by
    cases p with
    | cons p1 p2 =>
      cases q with
      | cons q1 q2 => rw [Rx.det d _ _ p1 q1, RxL.det ds _ _ p2 q2]
end
theorem RxL.mem : ∀ {vs : List Value} {ds : List PyData} {y : Value}, RxL h vs ds → y ∈ vs → ∃ e ∈ ds, Rx h y e
  | _, _, _, .cons p q, m => by
    rcases List.mem_cons.mp m with rfl | m
    · exact ⟨_, List.mem_cons_self .., p⟩
    · obtain ⟨e, m, r⟩ := RxL.mem q m
      exact ⟨e, List.mem_cons_of_mem _ m, r⟩
open Classical in
/-- what an item comes to beside d -/
noncomputable def fx (h : Heap) (d : PyData) (y : Value) : Bool := if z : ∃ e, Rx h y e then peq z.choose d else false
theorem fx_of {y : Value} {e d : PyData} (r : Rx h y e) : fx h d y = peq e d := by
  have z : ∃ e, Rx h y e := ⟨e, r⟩
  unfold fx
  rw [dif_pos z, Rx.det _ _ _ z.choose_spec r]
theorem fx_any {d : PyData} : ∀ {vs : List Value} {ds : List PyData}, RxL h vs ds → vs.any (fx h d) = ds.any fun z => peq z d
  | _, _, .nil => rfl
  | _, _, .cons p q => by rw [List.any_cons, List.any_cons, fx_of p, fx_any q]
theorem fx_get {d : PyData} : ∀ {vs : List Value} {ds : List PyData} {j : Nat} (hj : j < vs.length) (hd : j < ds.length), RxL h vs ds → fx h d vs[j] = peq ds[j] d
  | _, _, 0, _, _, .cons p q => fx_of p
  | _, _, j + 1, h1, h2, .cons p q => fx_get (j := j) (Nat.lt_of_succ_lt_succ h1) (Nat.lt_of_succ_lt_succ h2) q
end
theorem items_eq {A : Around} {s : Shared} {x : Value} {d : PyData} {vs : List Value} {ds : List PyData} (rx : Rx s.heap x d) (r : RxL s.heap vs ds) (hu : A.units + 2 + PyData.depthAll ds < cLine) : ∀ y, y ∈ vs → EqAt A.in1 s y x (fx s.heap d y) := fun y m => by
  obtain ⟨e, me, re⟩ := r.mem m
  rw [fx_of re]
  have := depth_mem me
  exact eq_rx e d A.in1 s y x re rx (by show A.units + 1 + 1 + min e.depth d.depth < cLine; omega)
theorem remove_at (l : Addr) (items : Array Value) (n : Nat) (x : Value) (e : Value → Bool) (j : Nat) (hj : j < items.size) (hit : e items[j] = true) (k : Nat) (hs1 : items.size ≤ sizeLine) :
    ∀ i : Nat, j - i = k → i ≤ j → (∀ m (hm : m < items.size), i ≤ m → m < j → e items[m] = false) → Meets (Builtin.«list.remove.loop» ⟨[.ref l, x, rawInt i], []⟩)
      (fun A R s => s.heap.get? l = some { cls := .type "list", dict := none, data := .seq items n, slots := #[] } ∧ (∀ y, y ∈ items → EqAt A.in1 s y x (e y)) ∧ R (.ok (.ret .none)) { s with heap := s.heap.update l (Obj.mapSeq fun xs => xs.eraseIdxIfInBounds j) }) := by
  induction k with
  | zero =>
    intro i hk hij hno prog w A R s h
    obtain ⟨hp, g, d, tk, os⟩ := s; obtain ⟨hl, he, h⟩ := h
    have hij' : i = j := by omega
    subst hij'
    wp_walk using wpAny_loadPart' hl
    have hi : items[((i : Nat) : Int).toNat]? = some items[i] := by simp [hj]
    rw [hi]
    refine wpAny_bind (he _ (Array.getElem_mem hj) prog w _ _ ?_)
    rw [hit]
    have hz' : (items.eraseIdxIfInBounds i).size ≤ sizeLine + 1 := Nat.le_trans (size_erased items _) (Nat.le_succ_of_le hs1)
    wp_walk using (wpAny_updateSeq hl rfl (hz := hs1) (_hz' := hz')), wpAny_loadPart' hl
    simpa using h
  | succ k ih =>
    intro i hk hij hno prog w A R s h
    obtain ⟨hp, g, d, tk, os⟩ := s; obtain ⟨hl, he, h⟩ := h
    have hlt : i < items.size := by omega
    wp_walk using wpAny_loadPart' hl
    have hi : items[((i : Nat) : Int).toNat]? = some items[i] := by simp [hlt]
    have hc : ((i : Int) + 1) = ((i + 1 : Nat) : Int) := by push_cast; rfl
    rw [hi]
    refine wpAny_bind (he _ (Array.getElem_mem hlt) prog w _ _ ?_)
    rw [hno i hlt (Nat.le_refl _) (by omega)]
    wp_walk
    rw [hc]
    exact ⟨plainId_quiet plain_remove_loop _, codeAny_builtin entry_remove_loop (by
      rw [Around.under_plainId plain_remove_loop _]
      exact ih (i + 1) (by omega) (by omega) (fun m hm h1 h2 => hno m hm (by omega) h2) prog w A R _ ⟨hl, he, h⟩)⟩
theorem remove_list_at (l : Addr) (items : Array Value) (n : Nat) (x : Value) (e : Value → Bool) (j : Nat) (hj : j < items.size)
    (hit : e items[j] = true) (hno : ∀ m (hm : m < items.size), m < j → e items[m] = false) (hs1 : items.size ≤ sizeLine) :
    Meets (Builtin.«list.remove» ⟨[.ref l, x], []⟩)
      (fun A R s => s.heap.get? l = some { cls := .type "list", dict := none, data := .seq items n, slots := #[] } ∧ (∀ y, y ∈ items → EqAt A.in1 s y x (e y)) ∧ R (.ok (.ret .none)) { s with heap := s.heap.update l (Obj.mapSeq fun xs => xs.eraseIdxIfInBounds j) }) := by
  intro prog w A R s h
  obtain ⟨hp, g, d, tk, os⟩ := s; obtain ⟨hl, he, h⟩ := h
  wp_walk using wpAny_loadPart' hl
  exact ⟨plainId_quiet plain_remove_loop _, codeAny_builtin entry_remove_loop (by
    rw [Around.under_plainId plain_remove_loop _]
    exact remove_at l items n x e j hj hit _ hs1 0 rfl (Nat.zero_le _) (fun m hm _ h2 => hno m hm h2) prog w A R _ ⟨hl, he, h⟩)⟩
section
variable {X : Cx}
theorem op_inP (hu : X.A.units + 64 < cLine) : OpR X (compareOp .In) (rInP X.K) := by
  intro pins s σ H x y v u Q I rx ry h
  obtain ⟨F, d, ds, hs, hd, he, hm, q⟩ := h
  have r1 := Rp.rx I hs _ _ _ hd rx
  have r2 := Rp.rx I hs _ _ _ he ry
  cases r2 with
  | lst k1 k2 => exact in_listAt _ k1 (fun y m => items_eq r1 k2 (by omega) y (by simpa using m)) (by
      rw [← Array.any_toList, fx_any k2]
      exact ⟨.bl _, H, I, rfl, q⟩)
theorem op_niP (hu : X.A.units + 64 < cLine) : OpR X (compareOp .NotIn) (rNiP X.K) := by
  intro pins s σ H x y v u Q I rx ry h
  obtain ⟨F, d, ds, hs, hd, he, hm, q⟩ := h
  have r1 := Rp.rx I hs _ _ _ hd rx
  have r2 := Rp.rx I hs _ _ _ he ry
  cases r2 with
  | lst k1 k2 => exact notIn_listAt _ k1 (fun y m => items_eq r1 k2 (by omega) y (by simpa using m)) (by
      rw [← Array.any_toList, fx_any k2]
      exact ⟨.bl _, H, I, rfl, q⟩)
/-- l.remove(x): the first equal one is taken out -/
def rRemP (K : PySem.W.Frag) : V → List V → Hp → VK → Prop := fun x xs H Q => ∃ (l : Addr) (F : Hp) (ys : List V) (y : V) (d : PyData) (ds : List PyData) (j : Nat) (hj : j < ds.length), x = .ref l ∧ xs = [y] ∧ H l = some (.lst ys) ∧ Same F H ∧ RpL K F ys ds ∧ Rp K F y d ∧ PyData.depthAll ds ≤ 60 ∧
  peq ds[j] d = true ∧ (∀ m (hm : m < ds.length), m < j → peq ds[m] d = false) ∧ Q .non (upd H l (.lst (ys.eraseIdx j)))
theorem mt_remP (hu : X.A.units + 64 < cLine) : MtM X "list.remove" (rRemP X.K) := by
  intro pins s σ H x xs v us Q I rx rxs h
  obtain ⟨l, F, ys, y, d, ds, j, hj, rfl, rfl, hH, hs, r1, r2, hd, hit, hno, q⟩ := h
  cases rx
  obtain ⟨u, rfl, ru⟩ := rxs.one
  obtain ⟨z, its, n, r, hl, e⟩ := I.lstM hH
  have k1 := RpL.rx I hs _ _ _ r1 r
  have k2 := Rp.rx I hs _ _ _ r2 ru
  have hn := k1.length
  have hjl : j < its.toArray.size := by rw [List.size_toArray]; omega
  refine call_meets PySem.F.slot_list_remove ⟨_, e, rfl⟩ PySem.F.entry_list_remove (PySem.F.args_list_remove_2 _ _)
    (remove_list_at l its.toArray n u (fx s.heap d) j hjl ?_ ?_ (by rw [List.size_toArray]; omega)) ⟨e, fun y m => items_eq k2 k1 (by omega) y (by simpa using m), ?_⟩
  · have := fx_get (d := d) (by simpa using hjl) hj k1
    simpa [this] using hit
  · intro m hm hmj
    have := fx_get (d := d) (by simpa using hm) (by omega) k1
    simpa [this] using hno m (by omega) hmj
  · have rr := r.eraseIdx j
    refine ⟨.non, _, I.lset (its' := its.eraseIdx j) (t' := s.toks) hH e ?_ rr ?_, rfl, q⟩
    · show its.toArray.eraseIdxIfInBounds j = (its.eraseIdx j).toArray
      rw [List.eraseIdxIfInBounds_toArray]
    · rw [List.length_eraseIdx]
      split <;> omega
end
end Z

/-! ZI: equality, list +, slices, isinstance, by data. -/
namespace Z
open PySem L2
open Enc (enc)
/-- typed data whose == is equality -/
class DEq (α : Type) [DecidableEq α] [Enc α] where
  k : Nat
  dep : ∀ x : α, (enc x).depth ≤ k
  eqv : ∀ x y : α, peq (enc x) (enc y) = decide (x = y)
  nod : ∀ x : α, noD (enc x) = true
instance : DEq Int := { k := 0, dep := fun _ => Nat.le_refl _, eqv := fun x y => by show (x == y) = _; by_cases h : x = y <;> simp [h], nod := fun _ => rfl }
instance : DEq Str := { k := 0, dep := fun _ => Nat.le_refl _, eqv := fun x y => by show (x == y) = _; by_cases h : x = y <;> simp [h], nod := fun _ => rfl }
instance : DEq Bool := { k := 0, dep := fun _ => Nat.le_refl _, eqv := fun x y => by show (x == y) = _; by_cases h : x = y <;> simp [h], nod := fun _ => rfl }
instance {α β : Type} [DecidableEq α] [DecidableEq β] [Enc α] [Enc β] [DEq α] [DEq β] : DEq (α × β) where
  k := 1 + max (DEq.k α) (DEq.k β)
  dep := fun x => by
    show PyData.depth (.tuple [enc x.1, enc x.2]) ≤ _
    simp only [PyData.depth, PyData.depthAll]
    have := DEq.dep x.1
    have := DEq.dep x.2
    omega
  eqv := fun x y => by
    show peqL [enc x.1, enc x.2] [enc y.1, enc y.2] = _
    simp only [peqL, Bool.and_true]
    rw [DEq.eqv, DEq.eqv]
    obtain ⟨a, b⟩ := x
    obtain ⟨c, d⟩ := y
    by_cases h1 : a = c <;> by_cases h2 : b = d <;> simp [h1, h2]
  nod := fun _ => rfl
instance {α β γ : Type} [DecidableEq α] [DecidableEq β] [DecidableEq γ] [Enc α] [Enc β] [Enc γ] [DEq α] [DEq β] [DEq γ] : DEq (T3 α β γ) where
  k := 1 + max (DEq.k α) (max (DEq.k β) (DEq.k γ))
  dep := fun x => by
    show PyData.depth (.tuple [enc x.a, enc x.b, enc x.c]) ≤ _
    simp only [PyData.depth, PyData.depthAll]
    have := DEq.dep x.a
    have := DEq.dep x.b
    have := DEq.dep x.c
    omega
  eqv := fun x y => by
    show peqL [enc x.a, enc x.b, enc x.c] [enc y.a, enc y.b, enc y.c] = _
    simp only [peqL, Bool.and_true]
    rw [DEq.eqv, DEq.eqv, DEq.eqv]
    obtain ⟨a, b, c⟩ := x
    obtain ⟨a', b', c'⟩ := y
    by_cases h1 : a = a' <;> by_cases h2 : b = b' <;> by_cases h3 : c = c' <;> simp [h1, h2, h3]
  nod := fun _ => rfl
theorem depthAll_map {α : Type} [Enc α] {k : Nat} (h : ∀ x : α, (enc x).depth ≤ k) : ∀ xs : List α, PyData.depthAll (xs.map enc) ≤ k
  | [] => Nat.zero_le _
  | x :: xs => by
    have h1 := h x
    have h2 := depthAll_map h xs
    simp only [List.map_cons, PyData.depthAll]
    omega
theorem peqL_map {α : Type} [DecidableEq α] [Enc α] [DEq α] : ∀ xs ys : List α, peqL (xs.map enc) (ys.map enc) = decide (xs = ys)
  | [], [] => rfl
  | [], _ :: _ => by simp [peqL]
  | _ :: _, [] => by simp [peqL]
  | x :: xs, y :: ys => by
    simp only [List.map_cons, peqL]
    rw [DEq.eqv, peqL_map xs ys]
    by_cases h1 : x = y <;> by_cases h2 : xs = ys <;> simp [h1, h2]
instance {α : Type} [DecidableEq α] [Enc α] [DEq α] : DEq (List α) where
  k := 1 + DEq.k α
  dep := fun x => by
    show PyData.depth (.list (x.map enc)) ≤ _
    simp only [PyData.depth]
    have := depthAll_map (DEq.dep (α := α)) x
    omega
  eqv := fun x y => peqL_map x y
  nod := fun _ => rfl
theorem any_in {α : Type} [DecidableEq α] [Enc α] [DEq α] {u : α} : ∀ {us : List α}, ((us.map enc).any fun z => peq z (enc u)) = decide (u ∈ us)
  | [] => by simp
  | x :: xs => by
    rw [List.map_cons, List.any_cons, any_in, DEq.eqv]
    by_cases h1 : x = u
    · subst h1; simp
    · have : u ≠ x := fun e => h1 e.symm
      by_cases h2 : u ∈ xs <;> simp [h1, h2, this]
section
variable {S : Sx} {B : Bs} {C C1 C2 C3 : Cn} {e a b c tg it elt lo hi : Expr} {es ifs : List Expr} {s sa sb r : Sh} {ss : List Sh} {pos p p1 p2 tpos : Pos} {E : ZEnds} {x : Str} {i j : Int} {d d1 d2 : PyData} {ds : List PyData}
theorem r2_eqP {K : PySem.W.Frag} (n1 : noD d1 = true) (n2 : noD d2 = true) (hm : min d1.depth d2.depth ≤ 60) : R2J K B C (rEqP K) (.dat d1) (.dat d2) (Sh.of (peq d1 d2)) C := fun ps ts T σ F H x y k Q q =>
  ⟨F, d1, d2, k.sub, k.pop.top, k.top, n1, n2, hm, q _ F H (k.pop.pop.push (.bl _))⟩
theorem r2_neP {K : PySem.W.Frag} (n1 : noD d1 = true) (n2 : noD d2 = true) (hm : min d1.depth d2.depth ≤ 60) : R2J K B C (rNeP K) (.dat d1) (.dat d2) (Sh.of (!peq d1 d2)) C := fun ps ts T σ F H x y k Q q =>
  ⟨F, d1, d2, k.sub, k.pop.top, k.top, n1, n2, hm, q _ F H (k.pop.pop.push (.bl _))⟩
theorem r2_inP {K : PySem.W.Frag} (hm : PyData.depthAll ds ≤ 60) : R2J K B C (rInP K) (.dat d) (.dat (.list ds)) (Sh.of (ds.any fun z => peq z d)) C := fun ps ts T σ F H x y k Q q =>
  ⟨F, d, ds, k.sub, k.pop.top, k.top, hm, q _ F H (k.pop.pop.push (.bl _))⟩
theorem r2_niP {K : PySem.W.Frag} (hm : PyData.depthAll ds ≤ 60) : R2J K B C (rNiP K) (.dat d) (.dat (.list ds)) (Sh.of (!ds.any fun z => peq z d)) C := fun ps ts T σ F H x y k Q q =>
  ⟨F, d, ds, k.sub, k.pop.top, k.top, hm, q _ F H (k.pop.pop.push (.bl _))⟩
variable (hu : S.A.units + 64 < cLine)
include hu
theorem fam_units {X : Cx} (hX : Fam S X) : X.A.units + 64 < cLine := by obtain ⟨rfl, _, _⟩ := hX; exact hu
theorem ze_eqP (ha : ZE S B C a (.dat d1) C1) (hb : ZE S B C1 b (.dat d2) C2) (n1 : noD d1 = true) (n2 : noD d2 = true) (hk : min d1.depth d2.depth ≤ 60) (hm : behindInMarks .Eq b = false := by rfl) : ZE S B C (.Compare a [.Eq] [b] pos) (Sh.of (peq d1 d2)) C2 :=
  ze_cmp (fun X hX => by have h := op_eqP (fam_units hu hX); obtain ⟨rfl, _, _⟩ := hX; exact h) ha hb (r2_eqP n1 n2 hk) hm
theorem ze_neP (ha : ZE S B C a (.dat d1) C1) (hb : ZE S B C1 b (.dat d2) C2) (n1 : noD d1 = true) (n2 : noD d2 = true) (hk : min d1.depth d2.depth ≤ 60) (hm : behindInMarks .NotEq b = false := by rfl) : ZE S B C (.Compare a [.NotEq] [b] pos) (Sh.of (!peq d1 d2)) C2 :=
  ze_cmp (fun X hX => by have h := op_neP (fam_units hu hX); obtain ⟨rfl, _, _⟩ := hX; exact h) ha hb (r2_neP n1 n2 hk) hm
theorem ze_inP (ha : ZE S B C a (.dat d) C1) (hb : ZE S B C1 b (.dat (.list ds)) C2) (hk : PyData.depthAll ds ≤ 60) (hm : behindInMarks .In b = false := by rfl) : ZE S B C (.Compare a [.In] [b] pos) (Sh.of (ds.any fun z => peq z d)) C2 :=
  ze_cmp (fun X hX => by have h := op_inP (fam_units hu hX); obtain ⟨rfl, _, _⟩ := hX; exact h) ha hb (r2_inP hk) hm
theorem ze_niP (ha : ZE S B C a (.dat d) C1) (hb : ZE S B C1 b (.dat (.list ds)) C2) (hk : PyData.depthAll ds ≤ 60) (hm : behindInMarks .NotIn b = false := by rfl) : ZE S B C (.Compare a [.NotIn] [b] pos) (Sh.of (!ds.any fun z => peq z d)) C2 :=
  ze_cmp (fun X hX => by have h := op_niP (fam_units hu hX); obtain ⟨rfl, _, _⟩ := hX; exact h) ha hb (r2_niP hk) hm
section
variable {α : Type} [DecidableEq α] [Enc α] [DEq α] {u v : α} {us : List α}
theorem ze_eqD (ha : ZE S B C a (Sh.of u) C1) (hb : ZE S B C1 b (Sh.of v) C2) (hk : DEq.k α ≤ 60 := by decide) (hm : behindInMarks .Eq b = false := by rfl) : ZE S B C (.Compare a [.Eq] [b] pos) (Sh.of (decide (u = v))) C2 := by
  rw [← DEq.eqv]
  exact ze_eqP hu ha hb (DEq.nod u) (DEq.nod v) (Nat.le_trans (Nat.min_le_left ..) (Nat.le_trans (DEq.dep u) hk)) hm
theorem ze_neD (ha : ZE S B C a (Sh.of u) C1) (hb : ZE S B C1 b (Sh.of v) C2) (hk : DEq.k α ≤ 60 := by decide) (hm : behindInMarks .NotEq b = false := by rfl) : ZE S B C (.Compare a [.NotEq] [b] pos) (Sh.of (!decide (u = v))) C2 := by
  rw [← DEq.eqv]
  exact ze_neP hu ha hb (DEq.nod u) (DEq.nod v) (Nat.le_trans (Nat.min_le_left ..) (Nat.le_trans (DEq.dep u) hk)) hm
theorem ze_inD (ha : ZE S B C a (Sh.of u) C1) (hb : ZE S B C1 b (Sh.of us) C2) (hk : DEq.k α ≤ 60 := by decide) (hm : behindInMarks .In b = false := by rfl) : ZE S B C (.Compare a [.In] [b] pos) (Sh.of (decide (u ∈ us))) C2 := by
  rw [← any_in]
  exact ze_inP hu ha hb (Nat.le_trans (depthAll_map DEq.dep us) hk) hm
theorem ze_niD (ha : ZE S B C a (Sh.of u) C1) (hb : ZE S B C1 b (Sh.of us) C2) (hk : DEq.k α ≤ 60 := by decide) (hm : behindInMarks .NotIn b = false := by rfl) : ZE S B C (.Compare a [.NotIn] [b] pos) (Sh.of (!decide (u ∈ us))) C2 := by
  rw [← any_in]
  exact ze_niP hu ha hb (Nat.le_trans (depthAll_map DEq.dep us) hk) hm
end
omit hu
/-! ### list + -/
def rCatG (K : PySem.W.Frag) : R2 := fun x y H Q => ∃ l b xs zs, x = .ref l ∧ y = .ref b ∧ SqL K H l xs ∧ SqL K H b zs ∧ xs.length + zs.length ≤ sizeLine ∧ ∀ p, H p = none → Q (.ref p) (upd H p (.lst (xs ++ zs)))
theorem op_catG {X : Cx} : OpR X (binaryOp .Add) (rCatG X.K) := by
  intro pins s σ H x y v u Q I rx ry h
  obtain ⟨l, b, xs, zs, rfl, rfl, hH, hB, hz, q⟩ := h
  cases rx
  cases ry
  obtain ⟨its, r, ⟨⟨cls, dd, data, sl⟩, n, ho, hc, _, hd⟩, _⟩ := I.list hH
  obtain ⟨its2, r2, ⟨⟨cls2, dd2, data2, sl2⟩, n2, ho2, hc2, _, hd2⟩, _⟩ := I.list hB
  simp only at hc hd hc2 hd2
  subst hc hd hc2 hd2
  have hl := r.length
  have hl2 := r2.length
  have e : its.toArray ++ its2.toArray = (its ++ its2).toArray := by simp
  refine concat_meets ⟨_, ho, rfl⟩ ⟨_, ho2, rfl⟩ noFill_list_add seq_list_add PySem.F.slot_list_add PySem.F.entry_list_add (PySem.F.args_list_add_2 _ _) (PyProof.Rows.list_addW l b its.toArray its2.toArray n n2 dd dd2 sl sl2 (by simp; omega)) ⟨ho, ho2, ?_⟩
  rw [e]
  exact ⟨.ref _, _, I.lnew (t' := s.toks) (r.append r2) (by rw [List.length_append]; omega), rfl, q _ I.fresh⟩
theorem sepL_dat {K : PySem.W.Frag} {ps : List V × List V} {F H : Hp} : ∀ {vs : List V} {ds : List PyData}, RpL K F vs ds → SepL K ps F H (ds.map Sh.dat) vs []
  | _, _, .nil => .nil
  | _, _, .cons h q => by
    have := SepL.cons (ps := ps) (H := H) (Sep.dat h) (sepL_dat (ps := ps) (H := H) q)
    exact this
/-- a fresh list of what stands in data -/
theorem Ok.newL {K : PySem.W.Frag} {ps : List V × List V} {ts : List V} {T : List Sh} {σ : L2.St} {F H : Hp} {vs : List V} {ds : List PyData} {p : Addr} (k : Ok K B ps ts T σ C F H) (hp : H p = none) (r : RpL K F vs ds) :
    Ok K B ps (.ref p :: ts) (.ls (ds.map Sh.dat) :: T) σ C F (upd H p (.lst vs)) := by
  have k0 := k.mine (vs := []) (ss := []) (o := .lst vs) (s := .ls (ds.map Sh.dat)) hp rfl fun as q => by
    cases q
    exact .ls (k.fresh hp).1 upd_same (sepL_dat r)
  exact k0
theorem r2_catP {K : PySem.W.Frag} {xs ys : List PyData} (hl : xs.length + ys.length ≤ 1000000) : R2J K B C (rCatG K) (.dat (.list xs)) (.dat (.list ys)) (.ls ((xs ++ ys).map Sh.dat)) C := fun ps ts T σ F H x y k Q q => by
  cases k.top with
  | @lst b zs _ h1 h2 =>
    cases k.pop.top with
    | @lst l ws _ h3 h4 =>
      refine ⟨l, b, ws, zs, rfl, rfl, k.sub.seq h3, k.sub.seq h1, ?_, fun p hp => q _ F _ (Ok.newL k.pop.pop hp (h4.append h2))⟩
      rw [h4.length, h2.length]
      exact Nat.le_trans hl (by decide)
theorem ze_catL {α : Type} [Enc α] {xs ys : List α} (ha : ZE S B C a (Sh.of xs) C1) (hb : ZE S B C1 b (Sh.of ys) C2) (hl : xs.length + ys.length ≤ 1000000) : ZE S B C (.BinOp a .Add b pos) (.ls ((xs ++ ys).map Sh.of)) C2 := by
  have h := ze_op (op := .Add) (pos := pos) (r := rCatG S.K) (fun X hX => by obtain ⟨rfl, _, _⟩ := hX; exact op_catG) ha hb (r2_catP (xs := xs.map enc) (ys := ys.map enc) (by simpa using hl))
  rw [← List.map_append, List.map_map] at h
  exact h
theorem ze_cat {α : Type} [Enc α] {xs ys : List α} (ha : ZE S B C a (Sh.of xs) C1) (hb : ZE S B C1 b (Sh.of ys) C2) (hl : xs.length + ys.length ≤ 1000000) : ZE S B C (.BinOp a .Add b pos) (Sh.of (xs ++ ys)) C2 := ze_frz (ze_catL ha hb hl) data_of
/-! ### slices -/
def cutP {α : Type} (xs : List α) (lo hi : Option Int) : List α := (xs.drop (HT.sIx xs.length 0 lo)).take (HT.sIx xs.length xs.length hi - HT.sIx xs.length 0 lo)
theorem cutP_map {α β : Type} {f : α → β} {xs : List α} {lo hi : Option Int} : cutP (xs.map f) lo hi = (cutP xs lo hi).map f := by
  unfold cutP
  rw [List.length_map, ← List.map_drop, ← List.map_take]
def wpO (X : Cx) (o : Option Expr) (r : Option Int) (B : Bs) (C C' : Cn) : Prop := ∃ t : TO, PO X o t ∧ ∀ ps ts T σ F H, Ok X.K B ps ts T σ C F H → ∀ Q : Option Int → Hp → Prop, (∀ F' H', Ok X.K B ps ts T σ C' F' H' → Q r H') → t σ H Q
structure ZO (S : Sx) (B : Bs) (C : Cn) (o : Option Expr) (r : Option Int) (C' : Cn) : Prop where
  run : ∀ X, Fam S X → wpO X o r B C C'
instance (S : Sx) (B : Bs) (C : Cn) (o : Option Expr) (r : Option Int) (C' : Cn) : CoeFun (ZO S B C o r C') (fun _ => ∀ X, Fam S X → wpO X o r B C C') := ⟨ZO.run⟩
theorem zo_none : ZO S B C none none C := .mk fun X _ => ⟨_, po_none, fun ps ts T σ F H k Q q => q F H k⟩
theorem zo_some (h : ZE S B C e (Sh.of i) C1) : ZO S B C (some e) (some i) C1 := .mk fun X hX => by
  have h' := h X hX
  obtain ⟨rfl, _, _⟩ := hX
  refine ⟨_, po_some pe_wp, fun ps ts T σ F H k Q q => h' ps ts T σ F H k _ fun v F' H' k' => ?_⟩
  cases rp_int k'.top
  exact ⟨i, rfl, q F' H' k'.pop⟩
theorem ze_sliceL {α : Type} [Enc α] {xs : List α} {ol oh : Option Expr} {l h : Option Int} (ha : ZE S B C a (Sh.of xs) C1) (hl : ZO S B C1 ol l C2) (hh : ZO S B C2 oh h C3) : ZE S B C (.Subscript a (.Slice ol oh none p2) pos) (.ls ((cutP xs l h).map Sh.of)) C3 := by
  refine .mk ?_
  intro X hX ps ts T σ F H k Q q
  have ha' := ha X hX
  obtain ⟨t1, o1, r1⟩ := hl X hX
  obtain ⟨t2, o2, r2⟩ := hh X hX
  obtain ⟨rfl, _, _⟩ := hX
  refine to_e (pe_slice sl_list pe_wp o1 o2) (ha' ps ts T σ F H k _ fun v F1 H1 k1 => r1 ps _ _ σ F1 H1 k1 _ fun F2 H2 k2 => r2 ps _ _ σ F2 H2 k2 _ fun F3 H3 k3 => ?_)
  cases k3.top with
  | @lst b zs _ h1 h2 =>
    refine ⟨b, zs, rfl, k3.sub.seq h1, fun p hp => ?_⟩
    have e : RpL X.K F3 (cutV zs l h) (cutP (xs.map enc) l h) := by
      unfold cutV cutP
      rw [h2.length]
      exact (h2.drop _).take _
    have k4 := Ok.newL k3.pop hp e
    rw [cutP_map, List.map_map] at k4
    exact q _ F3 _ k4
theorem ze_slice {α : Type} [Enc α] {xs : List α} {ol oh : Option Expr} {l h : Option Int} (ha : ZE S B C a (Sh.of xs) C1) (hl : ZO S B C1 ol l C2) (hh : ZO S B C2 oh h C3) : ZE S B C (.Subscript a (.Slice ol oh none p2) pos) (Sh.of (cutP xs l h)) C3 := ze_frz (ze_sliceL ha hl hh) data_of
/-- an empty dict that stays so -/
theorem ze_dict0 : ZE S B C (.Dict [] [] pos) (.dat (.dict [])) C := .mk fun X hX ps ts T σ F H k Q q => to_e pe_dnewK fun p hp => by
  have k2 := k.laid (o := .dK []) hp
  exact q _ _ _ (k2.push (.odd upd_same))
end
end Z

/-! ZJ: what is changed in place: dicts of one's own, lists by methods; isinstance. -/
namespace Z
open PySem L2
open Enc (enc)
section
variable {K : PySem.W.Frag} {B : Bs} {C : Cn} {ps : List V × List V} {ts qs : List V} {T : List Sh} {σ : L2.St} {F H : Hp} {v : V} {s : Sh} {d : PyData} {j : Nat} {p : Addr}
/-- what lies on top is put into what was laid just under it -/
theorem Ok.fill {vs : List V} {ss : List Sh} {o : HO} {s s0 : Sh} (k : Ok K B ps (vs ++ (.ref p :: ts)) (ss ++ (s0 :: T)) σ C F H) (hl : ss.length = vs.length) (h0' : ∀ {H as}, Sep K ps F H s0 (.ref p) as → as = [p] ∧ F p = none)
    (mk : ∀ as, SepL K ps F (upd H p o) ss vs as → F p = none → Sep K ps F (upd H p o) s (.ref p) (p :: as)) : Ok K B ps (.ref p :: ts) (s :: T) σ C F (upd H p o) := by
  obtain ⟨es, ls, as, bs, h1, h0, h2, h3, h4, h5, h6⟩ := k.sl
  obtain ⟨ws, ws', cs, cs', e1, rfl, q1, q2⟩ := h2.split
  have el : ws.length = vs.length := by rw [← q1.length, hl]
  obtain ⟨rfl, rfl⟩ := List.append_inj e1 el.symm
  cases q2 with
  | @cons _ _ _ _ c1 c2 q2 q3 =>
    obtain ⟨rfl, hF⟩ := h0' q2
    have nd := h4
    simp only [List.nodup_append, List.mem_append, List.mem_cons, List.not_mem_nil, or_false] at nd
    obtain ⟨-, ⟨-, ⟨⟨-, ⟨-, -, n1⟩, n2⟩, -, n3⟩, n4⟩, n5⟩ := nd
    have p1 : p ∉ es := fun z => n5 p z p (.inr (.inl (.inr (.inl rfl)))) rfl
    have p2 : p ∉ ls := fun z => n4 p z p (.inl (.inr (.inl rfl))) rfl
    have p3 : p ∉ cs := fun z => n2 p z p (.inl rfl) rfl
    have p4 : p ∉ c2 := fun z => n1 p rfl p z rfl
    have p5 : p ∉ bs := fun z => n3 p (.inr (.inl rfl)) p z rfl
    have eq : ∀ {xs : List Addr}, (∀ a ∈ xs, F a = none ∧ H a ≠ none) → p ∉ xs → ∀ a ∈ xs, F a = none ∧ (upd H p o) a = H a := fun q n a m => ⟨(q a m).1, upd_ne fun e => n (e ▸ m)⟩
    have hp0 : B.H0 p = none := h6 p (by simp)
    refine ⟨k.ff, fun a o e => ?_, fun a o e m => ?_, upd_there k.st, k.own, es, ls, (p :: cs) ++ c2, bs, h1.mono (Same.refl _) (eq h1.there p1), h0.mono (Same.refl _) (eq h0.there p2),
      .cons (mk cs (q1.mono (Same.refl _) (eq q1.there p3)) hF) (q3.mono (Same.refl _) (eq q3.there p4)), h3.mono (Same.refl _) (eq h3.there p5), ?_, h5, fun a m => h6 a ?_⟩
    · rw [upd_ne fun z => by subst z; rw [hF] at e; cases e]
      exact k.sub a o e
    · rw [upd_ne fun z => by subst z; rw [hp0] at e; cases e]
      exact k.keep a o e m
    · have hp : (es ++ (ls ++ ((p :: cs) ++ c2 ++ bs))).Perm (es ++ (ls ++ (cs ++ ([p] ++ c2) ++ bs))) := by
        refine List.Perm.append_left _ (List.Perm.append_left _ (List.Perm.append_right _ ?_))
        simp only [List.cons_append, List.nil_append]
        exact List.perm_middle.symm
      exact hp.nodup_iff.mpr h4
    · simp only [List.mem_append, List.mem_cons, List.not_mem_nil, or_false] at m ⊢
      rcases m with m | ((rfl | m) | m) | m
      · exact .inl m
      · exact .inr (.inl (.inr (.inl rfl)))
      · exact .inr (.inl (.inl m))
      · exact .inr (.inl (.inr (.inr m)))
      · exact .inr (.inr m)
/-- a list of data made here is written -/
theorem Ok.locWr {ds : List PyData} (k : Ok K B ps ts T σ C F H) (hj : C.L[j]? = some (.ls (ds.map Sh.dat))) :
    ∃ p ys, ps.2[j]? = some (.ref p) ∧ H p = some (.lst ys) ∧ RpL K F ys ds ∧ ∀ ys' ds', RpL K F ys' ds' → Ok K B ps ts T σ ⟨C.P, C.L.set j (.ls (ds'.map Sh.dat)), C.G⟩ F (upd H p (.lst ys')) := by
  obtain ⟨w, bs, cs, g1, g2, g3, g4, g6, g5⟩ := Ok.locAt (vs := []) (ss := []) k rfl hj
  cases g3
  cases g2 with
  | @ls _ p ys bs' f1 f2 f3 =>
    obtain ⟨r, rfl⟩ := f3.data
    refine ⟨p, ys, g1, f2, r, fun ys' ds' r' => ?_⟩
    exact g5 (upd H p (.lst ys')) (.ls (ds'.map Sh.dat)) [p] [] (fun a n => upd_ne fun z => n (by simp [z])) (fun a m => by
      rw [List.mem_singleton] at m; subst m; rw [upd_same]; exact nofun) (by simp) (.ls f1 upd_same (sepL_dat r'))
/-- a dict of data made here: read, written -/
theorem valV_zip : ∀ {ks : List Key} {vs : List V} {i : Nat} {k : Key} {v : V}, ks.Nodup → ks[i]? = some k → vs[i]? = some v → valV (ks.zip vs) k = some v
  | [], _, i, _, _, _, e, _ => by simp at e
  | _ :: _, [], i, _, _, _, _, e => by simp at e
  | a :: ks, b :: vs, 0, k, v, _, e1, e2 => by
    simp at e1 e2; subst e1 e2
    exact valV_pos rfl
  | a :: ks, b :: vs, i + 1, k, v, n, e1, e2 => by
    have n' := List.nodup_cons.mp n
    rw [List.zip_cons_cons, valV_neg]
    · exact valV_zip n'.2 (by simpa using e1) (by simpa using e2)
    · intro e
      exact n'.1 (by rw [show a = k from e]; exact List.mem_of_getElem? (by simpa using e1))
theorem putK_zip_map : ∀ {ks : List Key} {vs : List V} {i : Nat} {k : Key} {w : V}, ks.Nodup → ks[i]? = some k → ks.length = vs.length → ((ks.zip vs).map fun kv => if kv.1 = k then (kv.1, w) else kv) = ks.zip (vs.set i w)
  | [], _, i, _, _, _, e, _ => by simp at e
  | _ :: _, [], _, _, _, _, _, e => by cases e
  | a :: ks, b :: vs, 0, k, w, n, e1, hl => by
    simp at e1; subst e1
    have n' := List.nodup_cons.mp n
    simp only [List.zip_cons_cons, List.map_cons, if_pos, List.set_cons_zero, List.cons.injEq, true_and]
    conv => rhs; rw [← List.map_id (ks.zip vs)]
    refine List.map_congr_left fun kv m => ?_
    rw [if_neg]
    · rfl
    · intro e
      have := (List.of_mem_zip m).1
      exact n'.1 (e ▸ this)
  | a :: ks, b :: vs, i + 1, k, w, n, e1, hl => by
    have n' := List.nodup_cons.mp n
    have hk : a ≠ k := fun e => n'.1 (by rw [e]; exact List.mem_of_getElem? (by simpa using e1))
    simp only [List.zip_cons_cons, List.map_cons, List.set_cons_succ, List.cons.injEq]
    exact ⟨by rw [if_neg hk], putK_zip_map n'.2 (by simpa using e1) (by simpa using hl)⟩
theorem putK_zip {ks : List Key} {vs : List V} {i : Nat} {k : Key} {w : V} (n : ks.Nodup) (e : ks[i]? = some k) (hl : ks.length = vs.length) : putK (ks.zip vs) k w = ks.zip (vs.set i w) := by
  unfold putK
  rw [if_pos, putK_zip_map n e hl]
  rw [valV_any]
  obtain ⟨hi, _⟩ := List.getElem?_eq_some_iff.mp e
  rw [valV_zip n e (List.getElem?_eq_getElem (by omega : i < vs.length))]
  rfl
theorem merge_zip : ∀ (ks : List Key) (vs : List V) (k0 : List Key) (v0 : List V), k0.length = v0.length → ks.length = vs.length → (k0 ++ ks).Nodup → mergeK (k0.zip v0) (ks.zip vs) = (k0 ++ ks).zip (v0 ++ vs)
  | [], [], k0, v0, _, _, _ => by simp [mergeK]
  | [], _ :: _, _, _, _, h, _ => by cases h
  | _ :: _, [], _, _, _, h, _ => by cases h
  | k :: ks, v :: vs, k0, v0, h0, hl, n => by
    have e : putK (k0.zip v0) k v = (k0 ++ [k]).zip (v0 ++ [v]) := by
      unfold putK
      rw [if_neg]
      · rw [List.zip_append h0]; rfl
      · intro z
        obtain ⟨kv, m, e⟩ := List.any_eq_true.mp z
        have m1 := (List.of_mem_zip m).1
        have e1 : kv.1 = k := by simpa using e
        rw [List.nodup_append] at n
        exact n.2.2 _ m1 k (List.mem_cons_self ..) e1
    show mergeK (putK (k0.zip v0) k v) (ks.zip vs) = _
    rw [e, merge_zip ks vs (k0 ++ [k]) (v0 ++ [v]) (by simp [h0]) (by simpa using hl) (by simpa using n)]
    simp
theorem sepD_get : ∀ {xs : List Sh} {vs : List V} {as : List Addr} {i : Nat} {d : PyData}, SepL K ps F H xs vs as → xs[i]? = some (.dat d) → ∃ v, vs[i]? = some v ∧ Rp K F v d
  | _, _, _, _, _, .nil, e => by simp at e
  | _, _, _, 0, _, .cons h q, e => by
    simp at e; subst e
    cases h with | dat r => exact ⟨_, rfl, r⟩
  | _, _, _, i + 1, d, .cons h q, e => by
    obtain ⟨v, h1, h2⟩ := sepD_get (i := i) (d := d) q (by simpa using e)
    exact ⟨v, by simpa using h1, h2⟩
theorem sepD_set : ∀ {xs : List Sh} {vs : List V} {as : List Addr} {i : Nat} {d : PyData} {w : V}, SepL K ps F H xs vs as → Rp K F w d → ∃ bs, SepL K ps F H (xs.set i (.dat d)) (vs.set i w) bs ∧ bs.Sublist as
  | _, _, _, _, _, _, .nil, _ => ⟨[], .nil, List.Sublist.refl _⟩
  | _, _, _, 0, _, _, .cons h q, r => ⟨_, .cons (as := []) (.dat r) q, by simpa using List.sublist_append_right ..⟩
  | _, _, _, i + 1, _, _, .cons h q, r => by
    obtain ⟨bs, h1, h2⟩ := sepD_set (i := i) q r
    exact ⟨_, .cons h h1, List.Sublist.append_left h2 _⟩
end
section
variable {S : Sx} {B : Bs} {C C1 C2 C3 : Cn} {e a b c tg it elt o i' : Expr} {es ifs : List Expr} {s sa sb r : Sh} {ss : List Sh} {pos p p1 p2 tpos apos cpos : Pos} {E : ZEnds} {x : Str} {i j : Nat} {d d1 d2 : PyData} {ds : List PyData} {ks : List Key} {xs : List Sh}
/-- the pairs of a display -/
structure ZP (S : Sx) (B : Bs) (C : Cn) (keys : List (Option Expr)) (vals : List Expr) (ks : List Key) (ss : List Sh) (C' : Cn) : Prop where
  run : ∀ X, Fam S X → ∃ trs, (∀ pos, PPs X pos keys vals trs) ∧
    ∀ ps ts T σ F H, Ok S.K B ps ts T σ C F H → ∀ Q : List (V × V) → Hp → Prop, (∀ vs F' H', vs.length = ss.length → ks.length = vs.length → Ok S.K B ps (vs ++ ts) (ss ++ T) σ C' F' H' → Q ((ks.map kV).zip vs) H') → tPairs trs σ H Q
theorem zp_nil : ZP S B C [] [] [] [] C := .mk fun X _ => ⟨[], fun _ => pps_nil, fun ps ts T σ F H k Q q => q [] F H rfl rfl k⟩
theorem zp_str {y : Str} {kk : Nat} {pp : Pos} {keys : List (Option Expr)} {vals : List Expr} (hv : ZE S B C e s C1) (hr : ZP S B C1 keys vals ks ss C2) : ZP S B C (some (.Constant (.str y) kk pp) :: keys) (e :: vals) (.inr y :: ks) (s :: ss) C2 := .mk fun X hX => by
  obtain ⟨trs, t1, t2⟩ := hr.run X hX
  have hv' := hv X hX
  refine ⟨_, fun pos => pps_cons pe_str pe_wp (t1 pos), fun ps ts T σ F H k Q q => ?_⟩
  refine hv' ps ts T σ F H k _ fun v F1 H1 k1 => t2 ps _ _ σ F1 H1 k1 _ fun vs F2 H2 hl hk k2 => ?_
  exact q (v :: vs) F2 H2 (by simp [hl]) (by simp [hk]) (k2.rot hl)
theorem ze_disp {keys : List (Option Expr)} {vals : List Expr} (h : ZP S B C keys vals ks ss C1) (hn : ks.Nodup := by decide +kernel) (hall : keys.all (·.isSome) = true := by rfl) (hl : keys.length = vals.length := by rfl) (h0 : keys ≠ [] := by exact List.cons_ne_nil _ _) (h15 : keys.length ≤ 15 := by decide) (hk : ks.length = ss.length := by rfl) (hk15 : ks.length ≤ 15 := by decide) : ZE S B C (.Dict keys vals pos) (.dk ks ss) C1 := by
  refine .mk ?_
  intro X hX ps ts T σ F H k Q q
  obtain ⟨trs, t1, t2⟩ := h.run X hX
  refine to_e (pe_disp (t1 _) hall hl h0 h15) fun p hp => ?_
  have k1 : Ok S.K B ps (.ref p :: ts) (.dk [] [] :: T) σ C F (upd H p (.dK [])) := Ok.mine (vs := []) (ss := []) k hp rfl fun as q => by
    cases q
    exact .dk (k.fresh hp).1 upd_same rfl .nil
  refine t2 ps _ _ σ F _ k1 _ fun vs F2 H2 hl2 hk2 k2 => ?_
  have kt := (k2.pops hl2)
  have hz : H2 p = some (.dK []) := by
    obtain ⟨es, ls, as, bs, h1, h0, h2, h3, h4⟩ := kt.sl
    cases h2 with
    | cons h2 _ => cases h2 with | dk _ f2 _ f4 => cases f4; exact f2
  refine ⟨hz, ks.zip vs, ?_, ?_, q _ F2 _ ?_⟩
  · rw [List.zip_map_left]
    rfl
  · rw [List.length_zip]; omega
  · have em : mergeK [] (ks.zip vs) = ks.zip vs := by
      have := merge_zip ks vs [] [] rfl hk2 (by simpa using hn)
      simpa using this
    rw [em]
    exact k2.fill hl2.symm (fun h => by cases h with | dk f1 f2 f3 f4 => cases f4; exact ⟨rfl, f1⟩) fun as q f => .dk f upd_same hk2 q
theorem kvs_get {K : PySem.W.Frag} {ps : List V × List V} {F H : Hp} {v : V} {bs : List Addr} {k : Key} (h : Sep K ps F H (.dk ks xs) v bs) (hn : ks.Nodup) (hk : ks[i]? = some k) (hx : xs[i]? = some (.dat d)) : ∃ p w, v = .ref p ∧ DGet H p (kV k) (some w) ∧ Rp K F w d := by
  cases h with
  | @dk _ _ p vs as f1 f2 f3 f4 =>
    obtain ⟨w, h1, h2⟩ := sepD_get f4 hx
    refine ⟨p, w, rfl, ?_, h2⟩
    rw [← valV_zip hn hk h1]
    exact DGet.k f2
/-- d['..'] of a dict made here -/
theorem ze_dgetL {k : Key} {d0 : PyData} (hu : S.A.units + 64 < cLine) (ho : ZE S B C o (.loc j) C1) (hi : ZE S B C1 i' (.dat d0) C2) (i : Nat) (hj : C2.L[j]? = some (.dk ks xs)) (hk : ks[i]? = some k) (hx : xs[i]? = some (.dat d)) (hd : ∀ K F v, Rp K F v d0 → v = kV k) (hn : ks.Nodup := by decide +kernel) (hs : NoSl i' := by intro _ _; rfl) :
    ZE S B C (.Subscript o i' pos) (.dat d) C2 := .mk fun X hX ps ts T σ F H k0 Q q => by
  have ho' := ho X hX
  have hi' := hi X hX
  obtain ⟨rfl, _, _⟩ := hX
  refine to_e (pe_dget (Nat.lt_of_le_of_lt (by omega : X.A.units + 1 ≤ X.A.units + 64) hu) pe_wp pe_wp hs) (ho' ps ts T σ F H k0 _ fun v F1 H1 k1 => hi' ps _ _ σ F1 H1 k1 _ fun y F2 H2 k2 => ?_)
  have ev := hd _ _ _ k2.top
  subst ev
  have ve := k2.pop.topLoc
  obtain ⟨w, bs, cs, g1, g2, g3, g4, g6, g5⟩ := Ok.locAt (vs := []) (ss := []) k2.pop.pop rfl hj
  obtain rfl : w = v := Option.some.inj (g1.symm.trans ve)
  obtain ⟨p, z, e1, e2, e3⟩ := kvs_get g2 hn hk hx
  exact ⟨p, z, e1, e2, q _ F2 H2 (k2.pop.pop.push e3)⟩
theorem ze_dgetA {k : Key} {d0 : PyData} (hu : S.A.units + 64 < cLine) (ho : ZE S B C o (.arg j) C1) (hi : ZE S B C1 i' (.dat d0) C2) (i : Nat) (hj : C2.P[j]? = some (.dk ks xs)) (hk : ks[i]? = some k) (hx : xs[i]? = some (.dat d)) (hd : ∀ K F v, Rp K F v d0 → v = kV k) (hn : ks.Nodup := by decide +kernel) (hs : NoSl i' := by intro _ _; rfl) :
    ZE S B C (.Subscript o i' pos) (.dat d) C2 := .mk fun X hX ps ts T σ F H k0 Q q => by
  have ho' := ho X hX
  have hi' := hi X hX
  obtain ⟨rfl, _, _⟩ := hX
  refine to_e (pe_dget (Nat.lt_of_le_of_lt (by omega : X.A.units + 1 ≤ X.A.units + 64) hu) pe_wp pe_wp hs) (ho' ps ts T σ F H k0 _ fun v F1 H1 k1 => hi' ps _ _ σ F1 H1 k1 _ fun y F2 H2 k2 => ?_)
  have ev := hd _ _ _ k2.top
  subst ev
  have ve := k2.pop.topArg
  obtain ⟨w, bs, cs, g1, g2, g3, g4, g6, g5⟩ := Ok.argAt (vs := []) (ss := []) k2.pop.pop rfl hj
  obtain rfl : w = v := Option.some.inj (g1.symm.trans ve)
  obtain ⟨p, z, e1, e2, e3⟩ := kvs_get g2 hn hk hx
  exact ⟨p, z, e1, e2, q _ F2 H2 (k2.pop.pop.push e3)⟩
theorem key_str {y : Str} : ∀ (K : PySem.W.Frag) (F : Hp) (v : V), Rp K F v (enc y) → v = kV (.inr y) := fun _ _ _ h => rp_str h
/-- d['..'] = e, of a dict that was handed in -/
theorem zs_dputA {rest : List Stmt} {k : Key} {d0 : PyData} (hu : S.A.units + 64 < cLine) (hv : ZE S B C e (.dat d) C1) (ho : ZE S B C1 o (.arg j) C2) (hi : ZE S B C2 i' (.dat d0) C3) (i : Nat) (hj : C3.P[j]? = some (.dk ks xs)) (hk : ks[i]? = some k)
    (hd : ∀ K F v, Rp K F v d0 → v = kV k) (hr : ZS S B ⟨C3.P.set j (.dk ks (xs.set i (.dat d))), C3.L, C3.G⟩ rest E) (hn : ks.Nodup := by decide +kernel) (hl : ks.length ≤ 1000 := by decide) (hs : ∀ env, swapsWith e (some (.Subscript o i' p1)) pos.line env = pure false := by intro _; rfl) :
    ZS S B C (.Assign [.Subscript o i' p1] e pos :: rest) E := zs_cons fun X hX ps ts T σ F H D k0 q => by
  have hv' := hv X hX
  have ho' := ho X hX
  have hi' := hi X hX
  obtain ⟨rfl, _, _⟩ := hX
  refine to_s (ps_dput (Nat.lt_of_le_of_lt (by omega : X.A.units + 1 ≤ X.A.units + 64) hu) pe_wp pe_wp pe_wp (hs X.env)) (hv' ps ts T σ F H k0 _ fun z F1 H1 k1 => ho' ps _ _ σ F1 H1 k1 _ fun v F2 H2 k2 => hi' ps _ _ σ F2 H2 k2 _ fun y F3 H3 k3 => ?_)
  have ev := hd _ _ _ k3.top
  subst ev
  have ve := k3.pop.topArg
  have rz := k3.pop.pop.top
  obtain ⟨w, bs, cs, g1, g2, g3, g4, g6, g5⟩ := Ok.argAt (vs := []) (ss := []) k3.pop.pop.pop rfl hj
  obtain rfl : w = v := Option.some.inj (g1.symm.trans ve)
  cases g3
  cases g2 with
  | @dk _ _ p vs as f1 f2 f3 f4 =>
    obtain ⟨bs', s1, s2⟩ := sepD_set (i := i) (w := z) (d := d) f4 rz
    have hlen : (ks.zip vs).length < sizeLine := by
      rw [List.length_zip]
      exact Nat.lt_of_le_of_lt (Nat.le_trans (Nat.min_le_left ..) hl) (by decide)
    refine ⟨p, _, rfl, DPut.k f2 hlen, ?_⟩
    rw [putK_zip hn hk f3]
    obtain ⟨ss', pm⟩ := s2.exists_perm_append
    have nd := List.nodup_cons.mp g6
    have k4 := g5 (upd H3 p (.dK (ks.zip (vs.set i z)))) (.dk ks (xs.set i (.dat d))) (p :: bs') ss' (fun a n => upd_ne fun z => n (by simp [z])) (fun a m => by
      by_cases z : a = p
      · subst z; rw [upd_same]; exact nofun
      · rw [upd_ne z]; exact (Sep.there (.dk f1 f2 f3 f4) a m).2) (by
      rw [List.append_nil]
      exact List.Perm.cons _ pm.symm) (.dk f1 upd_same (by simpa using f3) (s1.mono (Same.refl _) fun a m => ⟨(s1.there a m).1, upd_ne fun e => nd.1 (e ▸ s2.subset m)⟩))
    exact q.nx [] _ _ F3 _ hr (by simpa using k4)
end
end Z

/-! ZK: insert, pop, remove, l[i] = v of lists made here; isinstance. -/
namespace Z
open PySem L2
open Enc (enc)
section
variable {S : Sx} {B : Bs} {C C1 C2 C3 : Cn} {e a b c tg it elt o i' : Expr} {es ifs : List Expr} {s sa sb r : Sh} {ss : List Sh} {pos p p1 p2 tpos apos cpos : Pos} {E : ZEnds} {x : Str} {i : Int} {j : Nat} {d d1 d2 : PyData} {ds : List PyData}
theorem mapDat {α : Type} [Enc α] (xs : List α) : xs.map Sh.of = (xs.map enc).map Sh.dat := by rw [List.map_map]; rfl
/-- xs.insert(i, e) -/
theorem ze_insert {α : Type} [Enc α] {xs : List α} {y : α} (ho : ZE S B C o (.loc j) C) (he : ZA S B C [a, b] [Sh.of i, Sh.of y] C1) (hj : C.L[j]? = some (.ls (xs.map Sh.of)) := by rfl) (hj1 : C1.L[j]? = some (.ls (xs.map Sh.of)) := by rfl) (hl : xs.length ≤ 1000000) (h0 : 0 ≤ i) (h1 : i ≤ 1000000000)
    (hs0 : ∀ env, starEach [a, b] env = (false, eval a env) :: starEach [b] env := by intro _; rfl)
    (hbase : ∀ env, attributeBase o "insert" env (eval o env) = eval o env := by intro _; rfl)
    (hfew : ∀ env, ((backTo cpos (starEach [a, b] env)).all (fun x => !x.1) && (backToKw cpos (keywordEach [] env)).all (fun x => x.1.isSome)
      && decide (([a, b] : List Expr).length + ([] : List Keyword).length + (if ([] : List Keyword).isEmpty then 0 else 1) < 30)) = true := by intro _; rfl)
    (hline : (apos.endLine == cpos.line) = true := by rfl) (hplain : ∀ env, (backTo cpos (starEach [b] env)).any (·.1) = false := by intro _; rfl) :
    ZE S B C (.Call (.Attribute o "insert" apos) [a, b] [] cpos) (.dat .none) ⟨C1.P, C1.L.set j (.ls ((xs.take i.toNat ++ [y] ++ xs.drop i.toNat).map Sh.of)), C1.G⟩ :=
  ze_bmL PySem.F.plainAttrs_list PySem.F.slot_list_insert PySem.F.type_list_insert (fun X _ => mt_insert) ho hj rfl he (fun ps ts T' σ F H v vs hl' k Q q => by
    have hl2 : vs.length = (([enc i, enc y] : List PyData).map Sh.dat).length := hl'
    have r := Ok.splitD (ds := [enc i, enc y]) hl2 k
    have k2 := k.pops hl2
    match vs, hl' with
    | [z1, z2], _ =>
      cases r with
      | cons r1 r2 =>
        cases r2 with
        | cons r2 _ =>
          cases rp_int r1
          have ve := k2.topLoc
          rw [mapDat] at hj1
          obtain ⟨w, ys, g1, g2, g3, g4⟩ := k2.pop.locWr hj1
          obtain rfl : .ref w = v := Option.some.inj (g1.symm.trans ve)
          refine ⟨w, ys, i, z2, rfl, rfl, g2, ?_, h0, by omega, q _ F _ ?_⟩
          · rw [g3.length, List.length_map]; exact Nat.lt_of_le_of_lt hl (by decide)
          · have k3 := g4 (ys.take i.toNat ++ [z2] ++ ys.drop i.toNat) ((xs.map enc).take i.toNat ++ [enc y] ++ (xs.map enc).drop i.toNat) (((g3.take _).append (.cons r2 .nil)).append (g3.drop _))
            have e2 : (xs.map enc).take i.toNat ++ [enc y] ++ (xs.map enc).drop i.toNat = (xs.take i.toNat ++ [y] ++ xs.drop i.toNat).map enc := by simp [List.map_take, List.map_drop]
            rw [e2] at k3
            rw [mapDat]
            exact k3.push .non) hbase hfew hline hs0 hplain
/-- xs.pop(i): what it gives is not used -/
theorem ze_popAt {α : Type} [Enc α] {xs : List α} {n : Nat} (ho : ZE S B C o (.loc j) C) (he : ZA S B C [a] [Sh.of (n : Int)] C1) (hn : n < xs.length) (hj : C.L[j]? = some (.ls (xs.map Sh.of)) := by rfl) (hj1 : C1.L[j]? = some (.ls (xs.map Sh.of)) := by rfl) (hl : xs.length ≤ 1000000)
    (hs0 : ∀ env, starEach [a] env = (false, eval a env) :: starEach [] env := by intro _; rfl)
    (hbase : ∀ env, attributeBase o "pop" env (eval o env) = eval o env := by intro _; rfl)
    (hfew : ∀ env, ((backTo cpos (starEach [a] env)).all (fun x => !x.1) && (backToKw cpos (keywordEach [] env)).all (fun x => x.1.isSome)
      && decide (([a] : List Expr).length + ([] : List Keyword).length + (if ([] : List Keyword).isEmpty then 0 else 1) < 30)) = true := by intro _; rfl)
    (hline : (apos.endLine == cpos.line) = true := by rfl) (hplain : ∀ env, (backTo cpos (starEach [] env)).any (·.1) = false := by intro _; rfl) :
    ZE S B C (.Call (.Attribute o "pop" apos) [a] [] cpos) (Sh.of xs[n]) ⟨C1.P, C1.L.set j (.ls ((xs.eraseIdx n).map Sh.of)), C1.G⟩ :=
  ze_bmL PySem.F.plainAttrs_list PySem.F.slot_list_pop PySem.F.type_list_pop (fun X _ => mt_popAt) ho hj rfl he (fun ps ts T' σ F H v vs hl' k Q q => by
    match vs, hl' with
    | [z1], _ =>
      cases rp_int k.top
      have ve := k.pop.topLoc
      rw [mapDat] at hj1
      obtain ⟨w, ys, g1, g2, g3, g4⟩ := k.pop.pop.locWr hj1
      obtain rfl : .ref w = v := Option.some.inj (g1.symm.trans ve)
      obtain ⟨y, hy, ry⟩ := g3.get (i := n) (d := enc xs[n]) (by rw [List.getElem?_map, List.getElem?_eq_getElem hn]; rfl)
      have hz : ys.length = xs.length := by rw [g3.length, List.length_map]
      refine ⟨w, ys, n, n, y, rfl, rfl, g2, by omega, by omega, ?_, hy, q _ F _ ?_⟩
      · have h0 : ¬ ((n : Int) < 0) := by omega
        have h1 : (0 : Int) ≤ n := by omega
        have h2 : (n : Int) < xs.length := by omega
        unfold seqIndex?
        rw [hz]
        simp only [h0, if_false, h1, h2, decide_true, Bool.and_self, if_true, Int.toNat_natCast]
      · have e : ∀ {vs : List V} {ds : List PyData} (n : Nat), RpL S.K F vs ds → RpL S.K F (vs.eraseIdx n) (ds.eraseIdx n) := by
          intro vs ds n h
          rw [List.eraseIdx_eq_take_drop_succ, List.eraseIdx_eq_take_drop_succ]
          exact (h.take _).append (h.drop _)
        have k3 := g4 (ys.eraseIdx n) ((xs.map enc).eraseIdx n) (e n g3)
        have e2 : (xs.map enc).eraseIdx n = (xs.eraseIdx n).map enc := by
          rw [List.eraseIdx_eq_take_drop_succ, List.eraseIdx_eq_take_drop_succ, List.map_append, List.map_take, List.map_drop]
        rw [e2] at k3
        rw [mapDat]
        exact k3.push ry) hbase hfew hline hs0 hplain
/-- xs.remove(e): the first equal one goes -/
theorem ze_remP {xs : List PyData} (hu : S.A.units + 64 < cLine) (ho : ZE S B C o (.loc j) C) (he : ZA S B C [a] [.dat d] C1) (n : Nat) (hn : n < xs.length) (hit : peq xs[n] d = true) (hno : ∀ m (hm : m < xs.length), m < n → peq xs[m] d = false) (hd : PyData.depthAll xs ≤ 60)
    (hj : C.L[j]? = some (.ls (xs.map Sh.dat)) := by rfl) (hj1 : C1.L[j]? = some (.ls (xs.map Sh.dat)) := by rfl)
    (hs0 : ∀ env, starEach [a] env = (false, eval a env) :: starEach [] env := by intro _; rfl)
    (hbase : ∀ env, attributeBase o "remove" env (eval o env) = eval o env := by intro _; rfl)
    (hfew : ∀ env, ((backTo cpos (starEach [a] env)).all (fun x => !x.1) && (backToKw cpos (keywordEach [] env)).all (fun x => x.1.isSome)
      && decide (([a] : List Expr).length + ([] : List Keyword).length + (if ([] : List Keyword).isEmpty then 0 else 1) < 30)) = true := by intro _; rfl)
    (hline : (apos.endLine == cpos.line) = true := by rfl) (hplain : ∀ env, (backTo cpos (starEach [] env)).any (·.1) = false := by intro _; rfl) :
    ZE S B C (.Call (.Attribute o "remove" apos) [a] [] cpos) (.dat .none) ⟨C1.P, C1.L.set j (.ls ((xs.eraseIdx n).map Sh.dat)), C1.G⟩ :=
  ze_bmL (r := rRemP S.K) PySem.F.plainAttrs_list PySem.F.slot_list_remove PySem.F.type_list_remove (fun X hX => by have h := mt_remP (fam_units hu hX); obtain ⟨rfl, _, _⟩ := hX; exact h) ho hj rfl he (fun ps ts T' σ F H v vs hl' k Q q => by
    match vs, hl' with
    | [z1], _ =>
      have ry := k.top
      have ve := k.pop.topLoc
      obtain ⟨w, ys, g1, g2, g3, g4⟩ := k.pop.pop.locWr hj1
      obtain rfl : .ref w = v := Option.some.inj (g1.symm.trans ve)
      refine ⟨w, F, ys, z1, d, xs, n, hn, rfl, rfl, g2, k.sub, g3, ry, hd, hit, hno, q _ F _ ?_⟩
      have e : ∀ {vs : List V} {ds : List PyData} (n : Nat), RpL S.K F vs ds → RpL S.K F (vs.eraseIdx n) (ds.eraseIdx n) := by
        intro vs ds n h
        rw [List.eraseIdx_eq_take_drop_succ, List.eraseIdx_eq_take_drop_succ]
        exact (h.take _).append (h.drop _)
      exact (g4 (ys.eraseIdx n) (xs.eraseIdx n) (e n g3)).push .non) hbase hfew hline hs0 hplain
/-- xs[i] = e -/
theorem RpL.setAt {K : PySem.W.Frag} {F : Hp} {v : V} {d : PyData} : ∀ {vs : List V} {ds : List PyData} (n : Nat), RpL K F vs ds → Rp K F v d → RpL K F (vs.set n v) (ds.set n d)
  | _, _, _, .nil, _ => .nil
  | _, _, 0, .cons _ q, r => .cons r q
  | _, _, n + 1, .cons h q, r => .cons h (RpL.setAt n q r)
theorem zs_setIx {α : Type} [Enc α] {xs : List α} {y : α} {rest : List Stmt} (hv : ZE S B C e (Sh.of y) C1) (ho : ZE S B C1 o (.loc j) C2) (hi : ZE S B C2 i' (Sh.of i) C3) (n : Nat) (hn : n < xs.length) (hin : i = n) (hj : C3.L[j]? = some (.ls (xs.map Sh.of)))
    (hr : ZS S B ⟨C3.P, C3.L.set j (.ls ((xs.set n y).map Sh.of)), C3.G⟩ rest E)
    (hs : ∀ env, swapsWithSole [.Subscript o i' p1] e pos.line env = pure false := by intro _; rfl) (hw : ∀ env, swappedStores [.Subscript o i' p1] e env = pure none := by intro _; rfl)
    (h1 : ∀ env, (assignEach [.Subscript o i' p1] env).map (·.2) = [assign (.Subscript o i' p1) env] := by intro _; rfl)
    (ha : ∀ (env : Env) v, assign (.Subscript o i' p1) env v = (do
      let ov ← holding [v] (eval o env)
      let iv ← holding [v, ov] (eval i' env)
      standAt p1
      holding [v, ov, iv] (setItem ov iv v)
      release [v, ov, iv] []) := by intro _ _; rfl) : ZS S B C (.Assign [.Subscript o i' p1] e pos :: rest) E := zs_cons fun X hX ps ts T σ F H D k0 q => by
  have hv' := hv X hX
  have ho' := ho X hX
  have hi' := hi X hX
  obtain ⟨rfl, _, _⟩ := hX
  refine to_s (ps_asg pe_wp (pg_sub pe_wp pe_wp set_list (ha X.env)) (hs X.env) (hw X.env) (h1 X.env)) (hv' ps ts T σ F H k0 _ fun z F1 H1 k1 => ho' ps _ _ σ F1 H1 k1 _ fun v F2 H2 k2 => hi' ps _ _ σ F2 H2 k2 _ fun yv F3 H3 k3 => ?_)
  cases rp_int k3.top
  have ve := k3.pop.topLoc
  have rz := k3.pop.pop.top
  rw [mapDat] at hj
  obtain ⟨w, ys, g1, g2, g3, g4⟩ := k3.pop.pop.pop.locWr hj
  obtain rfl : .ref w = v := Option.some.inj (g1.symm.trans ve)
  have hz : ys.length = xs.length := by rw [g3.length, List.length_map]
  refine ⟨w, ys, i, n, rfl, rfl, g2, ?_, q.nx [] _ _ F3 _ hr ?_⟩
  · subst hin
    unfold ixN
    rw [hz]
    simp [hn]
  · have k4 := g4 (ys.set n z) ((xs.map enc).set n (enc y)) (RpL.setAt n g3 rz)
    have e2 : (xs.map enc).set n (enc y) = (xs.set n y).map enc := by rw [List.map_set]
    rw [e2] at k4
    rw [mapDat]
    simpa using k4
/-! ### isinstance -/
def tyN : PyData → String
  | .none => "NoneType"
  | .bool _ => "bool"
  | .int _ => "int"
  | .str _ => "str"
  | .list _ => "list"
  | .tuple _ => "tuple"
  | .dict _ => "dict"
theorem tyX_of {K : PySem.W.Frag} {F H : Hp} {v : V} (r : Rp K F v d) (hs : Same F H) : TyX K H v (.type (tyN d)) := by
  cases r with
  | non => exact .base .non
  | bl b => exact .base (.bl b)
  | int i => exact .base (.int i)
  | str x => exact .base (.str x)
  | lst h _ =>
    rcases h with (h | ⟨o, h⟩) | ⟨o, its, n, hk, hc, _⟩
    · exact .base (.lst (hs _ _ h))
    · exact .base (.frz (hs _ _ h))
    · exact .kList hk hc
  | tup h _ =>
    rcases h with (h | ⟨o, h⟩) | ⟨o, its, n, hk, hc, _⟩
    · exact .base (.tup (hs _ _ h))
    · exact .fTuple (hs _ _ h)
    · exact .kTuple hk hc
  | odd h => exact .base (.dK (hs _ _ h))
/-- isinstance(e, T) of data, T a built-in type -/
theorem ze_isi {T : String} {y : Str} {t : Bool} (he : ZE S B C e (.dat d) C1) (hm : S.mg "isinstance" = none) (hm2 : S.mg y = none) (hv : bootBuiltins y = some (.type T)) (hk : kitB (tyN d) T = some t) (hg : S.scope.names.lookup ("isinstance" : Str) = some .globalImplicit := by rfl) (hg2 : S.scope.names.lookup y = some .globalImplicit := by rfl)
    (hn : y ≠ "__name__" := by decide) (hdb : (y == ("__debug__" : Str)) = false := by decide)
    (h1 : ∀ env, starEach [e, .Name y p2] env = (false, eval e env) :: starEach [.Name y p2] env := by intro _; rfl) (h2 : ∀ env, starEach [.Name y p2] env = (false, eval (.Name y p2) env) :: starEach [] env := by intro _; rfl)
    (hpl : ∀ env, (backTo pos (starEach [.Name y p2] env)).any (·.1) = false := by intro _; rfl) :
    ZE S B C (.Call (.Name "isinstance" p) [e, .Name y p2] [] pos) (Sh.of t) C1 := .mk fun X hX ps ts T' σ F H k Q q => by
  have he' := he X hX
  obtain ⟨rfl, _, _⟩ := hX
  refine to_e (pe_callB call_isi hg hm (by decide +kernel) (pa_cons pe_wp (pa_cons (pe_bltn (v := .ty T) hg2 hm2 hv rfl hn hdb) pa_nil (h2 X.env)) (h1 X.env)) (by decide) (by decide) (h1 X.env) (hpl X.env)) ?_
  refine he' ps ts T' σ F H k _ fun v F1 H1 k1 => ?_
  exact ⟨v, .ty T, .type (tyN d), .type T, t, rfl, .ty T, tyX_of k1.top k1.sub, kit_ty hk, q _ F1 H1 (k1.pop.push (.bl _))⟩
end
end Z

/-! ZL: loops that may end early, by what is still ahead. -/
namespace Z
open PySem L2
open Enc (enc)
section
variable {S : Sx} {B : Bs} {C C1 C2 C3 : Cn} {e a b c tg it elt o i' : Expr} {es ifs : List Expr} {s sa sb r : Sh} {ss : List Sh} {pos p p1 p2 tpos apos cpos : Pos} {E : ZEnds} {x : Str} {i : Int} {j : Nat} {d d1 d2 : PyData} {ds : List PyData}
theorem zs_rec {α : Type} [Enc α] {rest body : List Stmt} {σ : Type} {xs : List α} (hi : ZIt S B C tg it xs C1) (upd : σ → Cn → Cn) (P : σ → List α → Prop) (b0 : σ) (hp : P b0 xs) (h0 : C1.le (upd b0 C1)) (hm : ∀ b, (upd b C1).L.length = C1.L.length)
    (hb : ∀ b x post, x ∈ xs → P b (x :: post) → ∃ C2, ZG S B (upd b C1) tg (Sh.of x) C2 ∧
      ZS S B C2 body { E with nx := fun C'' => ∃ b', P b' post ∧ C''.fits C1.L.length = true ∧ (C''.cut C1.L.length).le (upd b' C1), ct := fun C'' => ∃ b', P b' post ∧ C''.fits C1.L.length = true ∧ (C''.cut C1.L.length).le (upd b' C1), bk := fun C'' => ZS S B C'' rest E })
    (hd : ∀ b, P b [] → ZS S B (upd b C1) rest E) (hs : ∀ env x, foldedSetIterable it env x = pure x := by intro _ _; rfl) : ZS S B C (.For tg it body [] pos :: rest) E := by
  obtain ⟨n, item, rfl, e, hi⟩ := hi.h
  refine zs_for hi (fun i C' => ∃ b, C'.le (upd b C1) ∧ P b (xs.drop i)) ⟨b0, h0, by simpa using hp⟩ (fun i C' h => ?_) (fun i C' hin iv => ?_) (fun C' iv => ?_) hs
  · obtain ⟨b, h, _⟩ := h
    rw [h.L, hm]
  · obtain ⟨b, iv, hP⟩ := iv
    have ed : xs.drop i = xs[i] :: xs.drop (i + 1) := List.drop_eq_getElem_cons hin
    rw [ed] at hP
    obtain ⟨C2, b1, b2⟩ := hb b xs[i] (xs.drop (i + 1)) (List.getElem_mem hin) hP
    rw [e i hin]
    refine ⟨C2, b1.weak iv, .mk fun X hX ps ts T σ F H D k q => b2 X hX ps ts T σ F H D k (q.imp (fun C h => ?_) (fun _ _ h => h) (fun _ h => h) (fun C h => ?_))⟩
    · obtain ⟨b', h1, h2, h3⟩ := h
      exact ⟨h2, b', h3, h1⟩
    · obtain ⟨b', h1, h2, h3⟩ := h
      exact ⟨h2, b', h3, h1⟩
  · obtain ⟨b, iv, hP⟩ := iv
    rw [List.drop_length] at hP
    exact zs_weak iv (hd b hP)
inductive FitL (m : Nat) : List Sh → Prop
  | nil : FitL m []
  | lst {α : Type} [Enc α] {xs : List α} {r : List Sh} : FitL m r → FitL m (.ls (xs.map Sh.of) :: r)
  | dts {xs : List PyData} {r : List Sh} : FitL m r → FitL m (.ls (xs.map Sh.dat) :: r)
  | oth {s : Sh} {r : List Sh} : s.bel m = true → FitL m r → FitL m (s :: r)
theorem belL_dat {m : Nat} : ∀ xs : List PyData, Sh.belL m (xs.map Sh.dat) = true
  | [] => rfl
  | _ :: xs => belL_dat xs
theorem FitL.spec {m : Nat} {ss : List Sh} (h : FitL m ss) : Sh.belL m ss = true := by
  induction h with
  | nil => rfl
  | lst _ ih =>
    rw [mapDat, Sh.belL, ih, Sh.bel, belL_dat]; rfl
  | dts _ ih => rw [Sh.belL, ih, Sh.bel, belL_dat]; rfl
  | oth h _ ih => rw [Sh.belL, ih, h]; rfl
theorem fits_of {C : Cn} {m : Nat} (h : FitL m C.P) (h' : FitL m (C.L.take m)) : C.fits m = true := by
  rw [Cn.fits, h.spec, h'.spec]; rfl
theorem mid_mem {α : Type} {xs pre post : List α} {x : α} (h : xs = pre ++ x :: post) : x ∈ xs := by rw [h]; exact List.mem_append_right _ (List.mem_cons_self ..)
theorem foldl_le {σ α : Type} {g : σ → α → σ} (m : σ → Nat) (h : ∀ s x, m (g s x) ≤ m s + 1) : ∀ (xs : List α) (b : σ), m (xs.foldl g b) ≤ m b + xs.length
  | [], b => Nat.le_refl _
  | x :: xs, b => by
    have h1 := foldl_le m h xs (g b x)
    have h2 := h b x
    rw [List.foldl_cons, List.length_cons]
    omega
section
variable {α β γ : Type} [Enc α] [Enc β] [Enc γ]
theorem zg_pair' {kk} {us : List Nat} {x : α × β} (h : ZGs S B C es [enc x.1, enc x.2] us C1) (hn : ∀ env, (assignEach es env).length = 2 := by intro _; rfl) (hst : ∀ env, (assignEach es env).findIdx? (·.1) = none := by intro _; rfl) : ZG' S B C (.Tuple es kk pos) (enc x) us C1 := zg_tup' h hn hst
theorem zg_trip' {kk} {us : List Nat} {x : T3 α β γ} (h : ZGs S B C es [enc x.a, enc x.b, enc x.c] us C1) (hn : ∀ env, (assignEach es env).length = 3 := by intro _; rfl) (hst : ∀ env, (assignEach es env).findIdx? (·.1) = none := by intro _; rfl) : ZG' S B C (.Tuple es kk pos) (enc x) us C1 := zg_tup' h hn hst
end
theorem ze_lenT {α : Type} [Enc α] {xs : List α} (ha : ZA S B C [a] [.loc j] C1) (hm : S.mg "len" = none) (hj : C1.L[j]? = some (.ls (xs.map Sh.of)) := by rfl) (hg : S.scope.names.lookup ("len" : Str) = some .globalImplicit := by rfl) (he : ∀ env, starEach [a] env = (false, eval a env) :: starEach [] env := by intro _; rfl) (hpl : ∀ env, (backTo pos (starEach [] env)).any (·.1) = false := by intro _; rfl) :
    ZE S B C (.Call (.Name "len" p) [a] [] pos) (Sh.of (xs.length : Int)) C1 := by
  have h := ze_lenL (p := p) (pos := pos) ha hm hj hg he hpl
  rwa [List.length_map] at h
theorem of_py {α : Type} [Enc α] (xs : List α) : Sh.of (xs.map enc : List PyData) = Sh.of xs := by
  show Sh.dat (.list ((xs.map enc).map id)) = Sh.dat (.list (xs.map enc))
  rw [List.map_id]
theorem encL_py (xs : List PyData) : (enc xs : PyData) = .list xs := by
  show PyData.list (xs.map id) = _
  rw [List.map_id]
theorem zs_ctx {st : List Stmt} (C' : Cn) (h : C = C') (k : ZS S B C' st E) : ZS S B C st E := h ▸ k
theorem ze_as {s' : Sh} (h : ZE S B C e s C1) (hs : s = s') : ZE S B C e s' C1 := hs ▸ h
end
end Z

/-! ZM: data whose kind is not told ahead. -/
namespace Z
open PySem L2
open Enc (enc)
instance : Inhabited PyData := ⟨.none⟩
def isT : PyData → Bool
  | .tuple _ => true
  | _ => false
def isB : PyData → Bool
  | .bool _ => true
  | _ => false
def isI : PyData → Bool
  | .bool _ => true
  | .int _ => true
  | _ => false
theorem kit_T : ∀ d : PyData, kitB (tyN d) "tuple" = some (isT d)
  | .none => (by decide +kernel : kitB "NoneType" "tuple" = some false)
  | .bool _ => (by decide +kernel : kitB "bool" "tuple" = some false)
  | .int _ => (by decide +kernel : kitB "int" "tuple" = some false)
  | .str _ => (by decide +kernel : kitB "str" "tuple" = some false)
  | .list _ => (by decide +kernel : kitB "list" "tuple" = some false)
  | .tuple _ => (by decide +kernel : kitB "tuple" "tuple" = some true)
  | .dict _ => (by decide +kernel : kitB "dict" "tuple" = some false)
theorem kit_B : ∀ d : PyData, kitB (tyN d) "bool" = some (isB d)
  | .none => (by decide +kernel : kitB "NoneType" "bool" = some false)
  | .bool _ => (by decide +kernel : kitB "bool" "bool" = some true)
  | .int _ => (by decide +kernel : kitB "int" "bool" = some false)
  | .str _ => (by decide +kernel : kitB "str" "bool" = some false)
  | .list _ => (by decide +kernel : kitB "list" "bool" = some false)
  | .tuple _ => (by decide +kernel : kitB "tuple" "bool" = some false)
  | .dict _ => (by decide +kernel : kitB "dict" "bool" = some false)
theorem kit_I : ∀ d : PyData, kitB (tyN d) "int" = some (isI d)
  | .none => (by decide +kernel : kitB "NoneType" "int" = some false)
  | .bool _ => (by decide +kernel : kitB "bool" "int" = some true)
  | .int _ => (by decide +kernel : kitB "int" "int" = some true)
  | .str _ => (by decide +kernel : kitB "str" "int" = some false)
  | .list _ => (by decide +kernel : kitB "list" "int" = some false)
  | .tuple _ => (by decide +kernel : kitB "tuple" "int" = some false)
  | .dict _ => (by decide +kernel : kitB "dict" "int" = some false)
mutual
theorem peq_refl : ∀ d : PyData, peq d d = true
  | .none => rfl
  | .bool b => by simp [peq]
  | .int i => by simp [peq]
  | .str x => by simp [peq]
  | .list xs => by rw [peq]; exact peqL_refl xs
  | .tuple xs => by rw [peq]; exact peqL_refl xs
  | .dict _ => rfl
theorem peqL_refl : ∀ xs : List PyData, peqL xs xs = true
  | [] => rfl
  | x :: xs => by rw [peqL, peq_refl x, peqL_refl xs]; rfl
end
section
variable {S : Sx} {B : Bs} {C C1 C2 C3 : Cn} {e a b c tg it elt o i' : Expr} {es ifs : List Expr} {s sa sb r : Sh} {ss : List Sh} {pos p p1 p2 tpos apos cpos : Pos} {E : ZEnds} {x : Str} {i : Int} {j : Nat} {d d1 d2 : PyData} {ds : List PyData}
theorem ze_lenTup (ha : ZA S B C [a] [.dat (.tuple ds)] C1) (hm : S.mg "len" = none) (hg : S.scope.names.lookup ("len" : Str) = some .globalImplicit := by rfl) (he : ∀ env, starEach [a] env = (false, eval a env) :: starEach [] env := by intro _; rfl) (hpl : ∀ env, (backTo pos (starEach [] env)).any (·.1) = false := by intro _; rfl) :
    ZE S B C (.Call (.Name "len" p) [a] [] pos) (Sh.of (ds.length : Int)) C1 :=
  ze_callB (id := "len") (p := p) (pos := pos) (r := fun xs H Q => ∃ p ys, xs = [.ref p] ∧ (SqL S.K H p ys ∨ SqT S.K H p ys) ∧ Q (.int ys.length) H) (fun X hX => by obtain ⟨rfl, _, _⟩ := hX; exact call_len_seq) hm (by decide +kernel) ha ra_lenT hg (by decide) (by decide) he hpl
theorem r2_neB {K : PySem.W.Frag} {x y : Bool} : R2J K B C rNe (Sh.of x) (Sh.of y) (Sh.of (!decide (x = y))) C := fun ps ts T σ F H u v k Q q => by
  cases rp_bl k.top
  cases rp_bl k.pop.top
  refine ⟨rfl, q _ F H (k.pop.pop.push ?_)⟩
  have e : decide ((V.bl x) = V.bl y) = decide (x = y) := by by_cases h : x = y <;> simp [h]
  rw [e]
  exact .bl _
theorem r2_eqB {K : PySem.W.Frag} {x y : Bool} : R2J K B C rEq (Sh.of x) (Sh.of y) (Sh.of (decide (x = y))) C := fun ps ts T σ F H u v k Q q => by
  cases rp_bl k.top
  cases rp_bl k.pop.top
  refine ⟨rfl, q _ F H (k.pop.pop.push ?_)⟩
  have e : decide ((V.bl x) = V.bl y) = decide (x = y) := by by_cases h : x = y <;> simp [h]
  rw [e]
  exact .bl _
theorem ze_neB {x y : Bool} (ha : ZE S B C a (Sh.of x) C1) (hb : ZE S B C1 b (Sh.of y) C2) (hm : behindInMarks .NotEq b = false := by rfl) : ZE S B C (.Compare a [.NotEq] [b] pos) (Sh.of (!decide (x = y))) C2 := ze_cmp (fun _ _ => op_ne) ha hb r2_neB hm
theorem ze_eqB {x y : Bool} (ha : ZE S B C a (Sh.of x) C1) (hb : ZE S B C1 b (Sh.of y) C2) (hm : behindInMarks .Eq b = false := by rfl) : ZE S B C (.Compare a [.Eq] [b] pos) (Sh.of (decide (x = y))) C2 := ze_cmp (fun _ _ => op_eq) ha hb r2_eqB hm
end
end Z
namespace Z
open PySem L2
open Enc (enc)
section
variable {S : Sx} {B : Bs} {C C1 C2 C3 : Cn} {e a b c tg it elt o i' : Expr} {es ifs : List Expr} {s sa sb r : Sh} {ss : List Sh} {pos p p1 p2 tpos apos cpos : Pos} {E : ZEnds} {x : Str} {i : Int} {j : Nat} {d d1 d2 : PyData} {ds : List PyData}
/-- what is one's own, lent as data -/
theorem lend {K : PySem.W.Frag} {ps : List V × List V} {ts : List V} {T : List Sh} {σ : L2.St} {F H : Hp} {v : V} (k : Ok K B ps (v :: ts) (.loc j :: T) σ C F H) (hj : C.L[j]? = some (.ls (ds.map Sh.dat))) : ∃ F', Same F F' ∧ Same F' H ∧ Rp K F' v (.list ds) := by
  obtain ⟨p, ys, g1, g2, g3, _⟩ := k.pop.locWr hj
  obtain rfl : .ref p = v := Option.some.inj (g1.symm.trans k.topLoc)
  have s1 : Same F fun a => if a = p then H a else F a := fun a o e => by
    show (if a = p then H a else F a) = some o
    by_cases z : a = p
    · rw [if_pos z]; exact k.sub a o e
    · rw [if_neg z]; exact e
  refine ⟨_, s1, fun a o e => ?_, .lst (.inl (.inl ?_)) (g3.mono s1)⟩
  · have e : (if a = p then H a else F a) = some o := e
    by_cases z : a = p
    · rw [if_pos z] at e; exact e
    · rw [if_neg z] at e; exact k.sub a o e
  · show (if p = p then H p else F p) = some (.lst ys)
    rw [if_pos rfl]; exact g2
theorem ze_inL (hu : S.A.units + 64 < cLine) (ha : ZE S B C a (.dat d) C1) (hb : ZE S B C1 b (.loc j) C2) (hj : C2.L[j]? = some (.ls (ds.map Sh.dat)) := by rfl) (hk : PyData.depthAll ds ≤ 60) (hm : behindInMarks .In b = false := by rfl) : ZE S B C (.Compare a [.In] [b] pos) (Sh.of (ds.any fun z => peq z d)) C2 :=
  ze_cmp (r := rInP S.K) (fun X hX => by have h := op_inP (fam_units hu hX); obtain ⟨rfl, _, _⟩ := hX; exact h) ha hb (fun ps ts T σ F H x y k Q q => by
    obtain ⟨F', h1, h2, h3⟩ := lend k hj
    exact ⟨F', d, ds, h2, k.pop.top.mono h1, h3, hk, q _ F H (k.pop.pop.push (.bl _))⟩) hm
theorem ze_niL (hu : S.A.units + 64 < cLine) (ha : ZE S B C a (.dat d) C1) (hb : ZE S B C1 b (.loc j) C2) (hj : C2.L[j]? = some (.ls (ds.map Sh.dat)) := by rfl) (hk : PyData.depthAll ds ≤ 60) (hm : behindInMarks .NotIn b = false := by rfl) : ZE S B C (.Compare a [.NotIn] [b] pos) (Sh.of (!ds.any fun z => peq z d)) C2 :=
  ze_cmp (r := rNiP S.K) (fun X hX => by have h := op_niP (fam_units hu hX); obtain ⟨rfl, _, _⟩ := hX; exact h) ha hb (fun ps ts T σ F H x y k Q q => by
    obtain ⟨F', h1, h2, h3⟩ := lend k hj
    exact ⟨F', d, ds, h2, k.pop.top.mono h1, h3, hk, q _ F H (k.pop.pop.push (.bl _))⟩) hm
end
end Z

namespace Z
open PySem L2
open Enc (enc)
section
variable {S : Sx} {B : Bs} {C C1 C2 C3 : Cn} {e a b c tg it elt o i' : Expr} {es ifs : List Expr} {s sa sb r : Sh} {ss : List Sh} {pos p p1 p2 tpos apos cpos : Pos} {E : ZEnds} {x : Str} {i : Int} {j : Nat} {d d1 d2 : PyData} {ds : List PyData}
theorem zs_if0 {as bs rest : List Stmt} {t : Bool} (hc : ZT S B C c t C) (ha : t = true → ZS S B C as { E with nx := fun C' => ZS S B C' rest E }) (hb : t = false → ZS S B C bs { E with nx := fun C' => ZS S B C' rest E }) : ZS S B C (.If c as bs pos :: rest) E := zs_if hc ha hb
theorem zt_eqB {x y : Bool} (ha : ZE S B C a (Sh.of x) C1) (hb : ZE S B C1 b (Sh.of y) C2) (hm : behindInMarks .Eq b = false := by rfl) : ZT S B C (.Compare a [.Eq] [b] pos) (decide (x = y)) C2 := zt_cmp (fun _ _ => op_eq) ha hb r2_eqB hm
theorem zt_neB {x y : Bool} (ha : ZE S B C a (Sh.of x) C1) (hb : ZE S B C1 b (Sh.of y) C2) (hm : behindInMarks .NotEq b = false := by rfl) : ZT S B C (.Compare a [.NotEq] [b] pos) (!decide (x = y)) C2 := zt_cmp (fun _ _ => op_ne) ha hb r2_neB hm
variable (hu : S.A.units + 64 < cLine)
include hu
theorem zt_eqP (ha : ZE S B C a (.dat d1) C1) (hb : ZE S B C1 b (.dat d2) C2) (n1 : noD d1 = true) (n2 : noD d2 = true) (hk : min d1.depth d2.depth ≤ 60) (hm : behindInMarks .Eq b = false := by rfl) : ZT S B C (.Compare a [.Eq] [b] pos) (peq d1 d2) C2 :=
  zt_cmp (fun X hX => by have h := op_eqP (fam_units hu hX); obtain ⟨rfl, _, _⟩ := hX; exact h) ha hb (r2_eqP n1 n2 hk) hm
theorem zt_neP (ha : ZE S B C a (.dat d1) C1) (hb : ZE S B C1 b (.dat d2) C2) (n1 : noD d1 = true) (n2 : noD d2 = true) (hk : min d1.depth d2.depth ≤ 60) (hm : behindInMarks .NotEq b = false := by rfl) : ZT S B C (.Compare a [.NotEq] [b] pos) (!peq d1 d2) C2 :=
  zt_cmp (fun X hX => by have h := op_neP (fam_units hu hX); obtain ⟨rfl, _, _⟩ := hX; exact h) ha hb (r2_neP n1 n2 hk) hm
theorem zt_inP (ha : ZE S B C a (.dat d) C1) (hb : ZE S B C1 b (.dat (.list ds)) C2) (hk : PyData.depthAll ds ≤ 60) (hm : behindInMarks .In b = false := by rfl) : ZT S B C (.Compare a [.In] [b] pos) (ds.any fun z => peq z d) C2 :=
  zt_cmp (fun X hX => by have h := op_inP (fam_units hu hX); obtain ⟨rfl, _, _⟩ := hX; exact h) ha hb (r2_inP hk) hm
theorem zt_niP (ha : ZE S B C a (.dat d) C1) (hb : ZE S B C1 b (.dat (.list ds)) C2) (hk : PyData.depthAll ds ≤ 60) (hm : behindInMarks .NotIn b = false := by rfl) : ZT S B C (.Compare a [.NotIn] [b] pos) (!ds.any fun z => peq z d) C2 :=
  zt_cmp (fun X hX => by have h := op_niP (fam_units hu hX); obtain ⟨rfl, _, _⟩ := hX; exact h) ha hb (r2_niP hk) hm
theorem zt_inL (ha : ZE S B C a (.dat d) C1) (hb : ZE S B C1 b (.loc j) C2) (hj : C2.L[j]? = some (.ls (ds.map Sh.dat)) := by rfl) (hk : PyData.depthAll ds ≤ 60) (hm : behindInMarks .In b = false := by rfl) : ZT S B C (.Compare a [.In] [b] pos) (ds.any fun z => peq z d) C2 :=
  zt_cmp (r := rInP S.K) (fun X hX => by have h := op_inP (fam_units hu hX); obtain ⟨rfl, _, _⟩ := hX; exact h) ha hb (fun ps ts T σ F H x y k Q q => by
    obtain ⟨F', h1, h2, h3⟩ := lend k hj
    exact ⟨F', d, ds, h2, k.pop.top.mono h1, h3, hk, q _ F H (k.pop.pop.push (.bl _))⟩) hm
theorem zt_niL (ha : ZE S B C a (.dat d) C1) (hb : ZE S B C1 b (.loc j) C2) (hj : C2.L[j]? = some (.ls (ds.map Sh.dat)) := by rfl) (hk : PyData.depthAll ds ≤ 60) (hm : behindInMarks .NotIn b = false := by rfl) : ZT S B C (.Compare a [.NotIn] [b] pos) (!ds.any fun z => peq z d) C2 :=
  zt_cmp (r := rNiP S.K) (fun X hX => by have h := op_niP (fam_units hu hX); obtain ⟨rfl, _, _⟩ := hX; exact h) ha hb (fun ps ts T σ F H x y k Q q => by
    obtain ⟨F', h1, h2, h3⟩ := lend k hj
    exact ⟨F', d, ds, h2, k.pop.top.mono h1, h3, hk, q _ F H (k.pop.pop.push (.bl _))⟩) hm
section
variable {α : Type} [DecidableEq α] [Enc α] [DEq α] {u v : α} {us : List α}
theorem zt_eqD (ha : ZE S B C a (Sh.of u) C1) (hb : ZE S B C1 b (Sh.of v) C2) (hk : DEq.k α ≤ 60 := by decide) (hm : behindInMarks .Eq b = false := by rfl) : ZT S B C (.Compare a [.Eq] [b] pos) (decide (u = v)) C2 := by
  rw [← DEq.eqv]
  exact zt_eqP hu ha hb (DEq.nod u) (DEq.nod v) (Nat.le_trans (Nat.min_le_left ..) (Nat.le_trans (DEq.dep u) hk)) hm
theorem zt_neD (ha : ZE S B C a (Sh.of u) C1) (hb : ZE S B C1 b (Sh.of v) C2) (hk : DEq.k α ≤ 60 := by decide) (hm : behindInMarks .NotEq b = false := by rfl) : ZT S B C (.Compare a [.NotEq] [b] pos) (!decide (u = v)) C2 := by
  rw [← DEq.eqv]
  exact zt_neP hu ha hb (DEq.nod u) (DEq.nod v) (Nat.le_trans (Nat.min_le_left ..) (Nat.le_trans (DEq.dep u) hk)) hm
theorem zt_inD (ha : ZE S B C a (Sh.of u) C1) (hb : ZE S B C1 b (Sh.of us) C2) (hk : DEq.k α ≤ 60 := by decide) (hm : behindInMarks .In b = false := by rfl) : ZT S B C (.Compare a [.In] [b] pos) (decide (u ∈ us)) C2 := by
  rw [← any_in]
  exact zt_inP hu ha hb (Nat.le_trans (depthAll_map DEq.dep us) hk) hm
theorem zt_niD (ha : ZE S B C a (Sh.of u) C1) (hb : ZE S B C1 b (Sh.of us) C2) (hk : DEq.k α ≤ 60 := by decide) (hm : behindInMarks .NotIn b = false := by rfl) : ZT S B C (.Compare a [.NotIn] [b] pos) (!decide (u ∈ us)) C2 := by
  rw [← any_in]
  exact zt_niP hu ha hb (Nat.le_trans (depthAll_map DEq.dep us) hk) hm
end
end
theorem peq_tup (xs ys : List PyData) : peq (.tuple xs) (.tuple ys) = peqL xs ys := by rw [peq]
theorem peqL_cons (x y : PyData) (xs ys : List PyData) : peqL (x :: xs) (y :: ys) = (peq x y && peqL xs ys) := by rw [peqL]
theorem peqL_nil : peqL [] [] = true := rfl
theorem peqL_nilc (y : PyData) (ys : List PyData) : peqL [] (y :: ys) = false := rfl
theorem peqL_cnil (y : PyData) (ys : List PyData) : peqL (y :: ys) [] = false := rfl
end Z

namespace P67
open PySem L2 Z
open Enc (enc)
def topS (i : Nat) : Stmt := PySem.Challenge.pw_shimright_k67_is_an_order.main.body.getD i (.Pass ⟨0, 0, 0, 0⟩)
def Wide (i : Int) : Prop := -1000000000000 < i ∧ i < 1000000000000
def FrPre (top bottom : Int) : Prop := Wide top ∧ 0 < bottom ∧ bottom < 1000000000000
def lfrac (top bottom : Int) : Int × Int := (top / (Int.gcd top bottom : Int), bottom / (Int.gcd top bottom : Int))
/-- a fraction of small numbers -/
def Small (q : Int × Int) : Prop := -1000 < q.1 ∧ q.1 < 1000 ∧ 0 < q.2 ∧ q.2 < 1000
theorem lfrac_small {top bottom : Int} (h1 : -1000 < top) (h2 : top < 1000) (h3 : 0 < bottom) (h4 : bottom < 1000) : Small (lfrac top bottom) := by
  have hg : (0 : Int) < (Int.gcd top bottom : Int) := by
    have : Int.gcd top bottom ≠ 0 := fun h => by have := (Int.gcd_eq_zero_iff.mp h).2; omega
    omega
  obtain ⟨k, hk⟩ := Int.gcd_dvd_left (a := top) (b := bottom)
  obtain ⟨l, hl⟩ := Int.gcd_dvd_right (a := top) (b := bottom)
  unfold lfrac Small
  generalize hgg : (Int.gcd top bottom : Int) = g at *
  have e1 : top / g = k := by rw [hk]; exact Int.mul_ediv_cancel_left _ (by omega)
  have e2 : bottom / g = l := by rw [hl]; exact Int.mul_ediv_cancel_left _ (by omega)
  simp only [e1, e2]
  have hl0 : 0 < l := by
    by_cases h : 0 < l
    · exact h
    · have : g * l ≤ 0 := Int.mul_nonpos_of_nonneg_of_nonpos (show (0 : Int) ≤ g by omega) (show l ≤ 0 by omega)
      omega
  have hl1 : l ≤ g * l := by
    have := Int.mul_le_mul_of_nonneg_right (show (1 : Int) ≤ g by omega) (Int.le_of_lt hl0)
    omega
  have hk1 : k < 1000 := by
    by_cases h : 0 < k
    · have := Int.mul_le_mul_of_nonneg_right (show (1 : Int) ≤ g by omega) (Int.le_of_lt h)
      omega
    · omega
  have hk2 : -1000 < k := by
    by_cases h : k < 0
    · have := Int.mul_le_mul_of_nonneg_right (show (1 : Int) ≤ g by omega) (show (0 : Int) ≤ -k by omega)
      have e : g * -k = -(g * k) := Int.mul_neg ..
      omega
    · omega
  omega
theorem mul_lt {a b M N : Int} (h1 : -M < a) (h2 : a < M) (h3 : -N < b) (h4 : b < N) : -(M * N) < a * b ∧ a * b < M * N := by
  have h : (a * b).natAbs < (M * N).natAbs := by
    rw [Int.natAbs_mul, Int.natAbs_mul]
    exact Nat.mul_lt_mul_of_lt_of_lt (by omega) (by omega)
  have hp : 0 < M * N := Int.mul_pos (by omega) (by omega)
  omega
theorem plus_pre {q r : Int × Int} (h : Small q) (h' : Small r) : FrPre (q.1 * r.2 + r.1 * q.2) (q.2 * r.2) := by
  obtain ⟨a1, a2, a3, a4⟩ := h
  obtain ⟨b1, b2, b3, b4⟩ := h'
  have h1 := mul_lt a1 a2 (show (-1000 : Int) < r.2 by omega) b4
  have h2 := mul_lt b1 b2 (show (-1000 : Int) < q.2 by omega) a4
  have h3 := mul_lt (show (-1000 : Int) < q.2 by omega) a4 (show (-1000 : Int) < r.2 by omega) b4
  have h4 := Int.mul_pos a3 b3
  exact ⟨⟨by omega, by omega⟩, h4, by omega⟩
theorem plan_at {n : Int} (h0 : 0 ≤ n) (h : n ≤ 2) : 0 < ixD [(13 : Int), 13, 5] n ∧ ixD [(13 : Int), 13, 5] n ≤ 13 := by
  have h3 : n = 0 ∨ n = 1 ∨ n = 2 := by omega
  rcases h3 with rfl | rfl | rfl <;> decide
theorem plan_many {c n : Int} (h0 : 0 ≤ n) (h : n ≤ 2) : (c % ixD [(13 : Int), 13, 5] n).toNat ≤ 13 := by
  have h1 := plan_at h0 h
  have h2 := Int.emod_lt_of_pos c h1.1
  omega
abbrev Plan : Type := T3 (List ((Int × Int) × (Int × Int))) (List ((Int × Int) × (Int × Int))) (List (T3 (List (Int × Int)) (List (Int × Int)) (Int × Int)))
def PlanOk (plan : Plan) : Prop := 0 < plan.a.length ∧ plan.a.length ≤ 3 ∧ plan.b.length ≤ 2 ∧ plan.c.length ≤ 13

structure Txt (K : PySem.W.Frag) (mg : Str → Option Value) where
  f_is_order : Addr
  d_is_order : FuncData
  D_is_order : Dfn K mg "is_order" "is_order" (topS 1) ["plan", "order"] f_is_order d_is_order
  f_law_cell_at : Addr
  d_law_cell_at : FuncData
  D_law_cell_at : Dfn K mg "_law_cell_at" "_law_cell_at" (topS 3) ["script", "k"] f_law_cell_at d_law_cell_at
  f_law_mixed : Addr
  d_law_mixed : FuncData
  D_law_mixed : Dfn K mg "_law_mixed" "_law_mixed" (topS 4) ["cell", "k"] f_law_mixed d_law_mixed
  f_law_fraction : Addr
  d_law_fraction : FuncData
  D_law_fraction : Dfn K mg "_law_fraction" "_law_fraction" (topS 5) ["top", "bottom"] f_law_fraction d_law_fraction
  f_law_plus : Addr
  d_law_plus : FuncData
  D_law_plus : Dfn K mg "_law_plus" "_law_plus" (topS 6) ["q", "r"] f_law_plus d_law_plus
  f_law_times : Addr
  d_law_times : FuncData
  D_law_times : Dfn K mg "_law_times" "_law_times" (topS 7) ["q", "r"] f_law_times d_law_times
  f_law_bounds : Addr
  d_law_bounds : FuncData
  D_law_bounds : Dfn K mg "_law_bounds" "_law_bounds" (topS 8) ["left"] f_law_bounds d_law_bounds
  f_law_shares : Addr
  d_law_shares : FuncData
  D_law_shares : Dfn K mg "_law_shares" "_law_shares" (topS 9) ["left", "many"] f_law_shares d_law_shares
  f_law_plan : Addr
  d_law_plan : FuncData
  D_law_plan : Dfn K mg "_law_plan" "_law_plan" (topS 10) ["script"] f_law_plan d_law_plan
  f_law_order : Addr
  d_law_order : FuncData
  D_law_order : Dfn K mg "_law_order" "_law_order" (topS 11) ["plan", "cell"] f_law_order d_law_order
  f_law_copy : Addr
  d_law_copy : FuncData
  D_law_copy : Dfn K mg "_law_copy" "_law_copy" (topS 12) ["plan"] f_law_copy d_law_copy
  f_law_spoilt : Addr
  d_law_spoilt : FuncData
  D_law_spoilt : Dfn K mg "_law_spoilt" "_law_spoilt" (topS 13) ["order", "many", "cell"] f_law_spoilt d_law_spoilt
  f_law_due : Addr
  d_law_due : FuncData
  D_law_due : Dfn K mg "_law_due" "_law_due" (topS 14) ["plan", "order"] f_law_due d_law_due
  f_law : Addr
  d_law : FuncData
  D_law : Dfn K mg "law" "law" (topS 15) ["script"] f_law d_law
  z_len : mg "len" = none
  z_max : mg "max" = none
  z_range : mg "range" = none
  z_int : mg "int" = none
  z_isinstance : mg "isinstance" = none
  z_list : mg "list" = none
  z_tuple : mg "tuple" = none
  z_bool : mg "bool" = none
section
variable {P : Program} {w : World} {K : PySem.W.Frag} {mg : Str → Option Value} {base : Heap}
def m_law_cell_at (script : List (Int)) (k : Int) : Int := (cond (decide (k < ((script).length : Int))) ((ixD script k)) ((0 : Int)))
abbrev s_law_cell_at : Stmt := topS 3
theorem sc_law_cell_at : FnScope ["script", "k"] ["script", "k"] (defScope s_law_cell_at) := ⟨rfl, rfl, rfl, by decide +kernel, rfl, by decide +kernel, by decide +kernel⟩
theorem ok_law_cell_at (T : Txt K mg) : FnOk P w K mg base CX0 1 T.f_law_cell_at T.d_law_cell_at ["script", "k"] (spZ K (pure2 (fun (script : List (Int)) (k : Int) => 0 ≤ k) m_law_cell_at)) := by
  refine fn_z T.D_law_cell_at.fn sc_law_cell_at (by rintro _ _ _ ⟨script, k, rfl, hp, rfl, rfl⟩; rfl) (by rintro _ _ _ ⟨script, k, rfl, hp, rfl, rfl⟩; exact ⟨rfl, rfl⟩) (fun A B ss r ss' hr h => ?_)
  obtain ⟨script, k, rfl, hp, rfl, rfl⟩ := h
  refine zs_ctx ⟨[_, _], [], [_, _]⟩ rfl ?_
  refine zs_if (zt_lt (ze_var 1) (ze_len (za_cons (ze_var 0) za_nil) T.z_len)) (fun h1 => ?_) (fun h1 => ?_)
  · have h1' := h1; try simp only [decide_eq_true_eq, decide_eq_false_iff_not, Bool.and_eq_true, Bool.or_eq_true, Bool.not_eq_true', Bool.not_eq_false', Bool.and_eq_false_iff, Bool.or_eq_false_iff] at h1'
    refine zs_ret (ze_getD (ze_var 0) (ze_var 1) ?_) ⟨?_, rfl⟩
    · exact isSome_at hp (by omega)  -- 0
    · first | rfl | (simp only [m_law_cell_at, h1, cond_true, cond_false]; done) | (simp only [m_law_cell_at, h1, cond_true, cond_false]; rfl)
  · have h1' := h1; try simp only [decide_eq_true_eq, decide_eq_false_iff_not, Bool.and_eq_true, Bool.or_eq_true, Bool.not_eq_true', Bool.not_eq_false', Bool.and_eq_false_iff, Bool.or_eq_false_iff] at h1'
    refine zs_nil ?_
    refine zs_ret ze_int ⟨?_, rfl⟩
    · first | rfl | (simp only [m_law_cell_at, h1, cond_true, cond_false]; done) | (simp only [m_law_cell_at, h1, cond_true, cond_false]; rfl)
def m_law_mixed (cell : Int) (k : Int) : Int := (cond (decide ((1000000000000000000 : Int) ≤ cell)) (cell) (let number_1 := (((((cell * (48271 : Int)) + (((7919 : Int) * k) * k)) + ((104729 : Int) * k)) + (17 : Int)) % (2147483647 : Int)); let number_2 := ((number_1 * number_1) % (2147483629 : Int)); ((((number_2 * number_2) * number_2) + ((1000003 : Int) * number_2)) + k)))
abbrev s_law_mixed : Stmt := topS 4
theorem sc_law_mixed : FnScope ["cell", "k", "number"] ["cell", "k"] (defScope s_law_mixed) := ⟨rfl, rfl, rfl, by decide +kernel, rfl, by decide +kernel, by decide +kernel⟩
theorem ok_law_mixed (T : Txt K mg) : FnOk P w K mg base CX0 1 T.f_law_mixed T.d_law_mixed ["cell", "k"] (spZ K (pure2 (fun (cell : Int) (k : Int) => 0 ≤ k ∧ k < 1000) m_law_mixed)) := by
  refine fn_z T.D_law_mixed.fn sc_law_mixed (by rintro _ _ _ ⟨cell, k, rfl, hp, rfl, rfl⟩; rfl) (by rintro _ _ _ ⟨cell, k, rfl, hp, rfl, rfl⟩; exact ⟨rfl, rfl⟩) (fun A B ss r ss' hr h => ?_)
  obtain ⟨cell, k, rfl, hp, rfl, rfl⟩ := h
  refine zs_ctx ⟨[_, _], [], [_, _, _]⟩ rfl ?_
  refine zs_if (zt_ge (ze_var 0) (ze_powL (v := 1000000000000000000) ze_int ze_int (by decide +kernel))) (fun h1 => ?_) (fun h1 => ?_)
  · have h1' := h1; try simp only [decide_eq_true_eq, decide_eq_false_iff_not, Bool.and_eq_true, Bool.or_eq_true, Bool.not_eq_true', Bool.not_eq_false', Bool.and_eq_false_iff, Bool.or_eq_false_iff] at h1'
    refine zs_ret (ze_var 0) ⟨?_, rfl⟩
    · first | rfl | (simp only [m_law_mixed, h1, cond_true, cond_false]; done) | (simp only [m_law_mixed, h1, cond_true, cond_false]; rfl)
  · have h1' := h1; try simp only [decide_eq_true_eq, decide_eq_false_iff_not, Bool.and_eq_true, Bool.or_eq_true, Bool.not_eq_true', Bool.not_eq_false', Bool.and_eq_false_iff, Bool.or_eq_false_iff] at h1'
    refine zs_nil ?_
    refine zs_ctx ⟨[_, _], [], [_, _, _]⟩ rfl ?_
    refine zs_set 2 (ze_mod (ze_add (ze_add (ze_add (ze_mul (ze_var 0) ze_int (.inl (.inr ⟨by decide, by decide⟩))) (ze_mul (ze_mul ze_int (ze_var 1) (.inl (.inl ⟨by decide, by decide⟩))) (ze_var 1) ?_)) (ze_mul ze_int (ze_var 1) (.inl (.inl ⟨by decide, by decide⟩)))) ze_int) ze_int (by decide)) ?_ (hn := sc_law_mixed.nd)
    · first | exact .inl (.inl ⟨by omega, by omega⟩) | exact .inl (.inr ⟨by omega, by omega⟩)  -- 0
    refine zs_ctx ⟨[_, _], [], [_, _, _]⟩ rfl ?_
    refine zs_set 2 (ze_mod (ze_mul (ze_var 2) (ze_var 2) ?_) ze_int (by decide)) ?_ (hn := sc_law_mixed.nd)
    · first | exact .inl (.inl ⟨by omega, by omega⟩) | exact .inl (.inr ⟨by omega, by omega⟩)  -- 1
    refine zs_ret (ze_add (ze_add (ze_mul (ze_mul (ze_var 2) (ze_var 2) ?_) (ze_var 2) ?_) (ze_mul ze_int (ze_var 2) (.inl (.inl ⟨by decide, by decide⟩)))) (ze_var 1)) ⟨?_, rfl⟩
    · first | exact .inl (.inl ⟨by omega, by omega⟩) | exact .inl (.inr ⟨by omega, by omega⟩)  -- 2
    · first | exact .inl (.inl ⟨by omega, by omega⟩) | exact .inl (.inr ⟨by omega, by omega⟩)  -- 3
    · first | rfl | (simp only [m_law_mixed, h1, cond_true, cond_false]; done) | (simp only [m_law_mixed, h1, cond_true, cond_false]; rfl)
abbrev s_law_fraction : Stmt := topS 5
theorem sc_law_fraction : FnScope ["top", "bottom", "one", "other"] ["top", "bottom"] (defScope s_law_fraction) := ⟨rfl, rfl, rfl, by decide +kernel, rfl, by decide +kernel, by decide +kernel⟩
theorem ok_law_fraction (T : Txt K mg) : FnOk P w K mg base CX0 1 T.f_law_fraction T.d_law_fraction ["top", "bottom"] (spZ K (pure2 (fun (top : Int) (bottom : Int) => FrPre top bottom) lfrac)) := by
  refine fn_z T.D_law_fraction.fn sc_law_fraction (by rintro _ _ _ ⟨top, bottom, rfl, hp, rfl, rfl⟩; rfl) (by rintro _ _ _ ⟨top, bottom, rfl, hp, rfl, rfl⟩; exact ⟨rfl, rfl⟩) (fun A B ss r ss' hr h => ?_)
  obtain ⟨top, bottom, rfl, hp, rfl, rfl⟩ := h
  refine zs_set 2 (ze_max2 (za_cons (ze_var 0) (za_cons (ze_sub ze_int (ze_var 0)) za_nil)) T.z_max) ?_ (hn := sc_law_fraction.nd)
  refine zs_set 3 (ze_var 1) ?_ (hn := sc_law_fraction.nd)
  obtain ⟨⟨w1, w2⟩, w3, w4⟩ := hp
  refine zs_while (fun m C' => ∃ one other : Int, C' = ⟨[Sh.of top, Sh.of bottom], [], [Sh.of top, Sh.of bottom, Sh.of one, Sh.of other]⟩ ∧ 0 ≤ one ∧ 0 < other ∧ one < 1000000000000 ∧ other < 1000000000000 ∧ m = one.toNat ∧ Int.gcd one other = Int.gcd top bottom) _
    ⟨max top (0 - top), bottom, rfl, by omega, w3, by omega, w4, rfl, ?_⟩ ?_
  · have e : (max top (0 - top)).natAbs = top.natAbs := by omega
    rw [Int.gcd, e]; rfl
  · rintro m C' ⟨one, other, rfl, h1, h2, h3, h4, rfl, hg⟩
    refine ⟨_, _, zt_gt (ze_var 2) ze_int, fun h => ?_, fun h => ?_⟩
    · have h := of_decide_eq_true h
      refine zs_par 2 3 (za_cons (ze_mod (ze_var 3) (ze_var 2) h) (za_cons (ze_var 2) za_nil)) ?_ (by intro env e; cases env; subst e; rfl) (hn := sc_law_fraction.nd)
      have h5 := Int.emod_nonneg other (show one ≠ 0 by omega)
      have h6 := Int.emod_lt_of_pos other h
      refine zs_nil ⟨rfl, _, ?_, _, _, rfl, h5, h, by omega, h3, rfl, ?_⟩
      · omega
      · rw [← hg]
        obtain ⟨x, rfl⟩ : ∃ x : Nat, one = (x : Int) := ⟨one.toNat, by omega⟩
        obtain ⟨y, rfl⟩ : ∃ y : Nat, other = (y : Int) := ⟨other.toNat, by omega⟩
        rw [← Int.natCast_emod]
        exact (Nat.gcd_rec x y).symm
    · have h := of_decide_eq_false h
      have e0 : one = 0 := by omega
      subst e0
      have eo : other = (Int.gcd top bottom : Int) := by rw [← hg, Int.gcd_zero_left]; omega
      refine zs_ret (ze_pair (ze_div (ze_var 0) (ze_var 3) (div_small h2 (by omega))) (ze_div (ze_var 1) (ze_var 3) (div_small h2 (by omega)))) ⟨?_, rfl⟩
      rw [eo]; rfl
def m_law_plus (q : (Int) × (Int)) (r : (Int) × (Int)) : (Int) × (Int) := (lfrac ((q.1 * r.2) + (r.1 * q.2)) (q.2 * r.2))
abbrev s_law_plus : Stmt := topS 6
theorem sc_law_plus : FnScope ["q", "r"] ["q", "r"] (defScope s_law_plus) := ⟨rfl, rfl, rfl, by decide +kernel, rfl, by decide +kernel, by decide +kernel⟩
theorem ok_law_plus (T : Txt K mg) : FnOk P w K mg base CX0 2 T.f_law_plus T.d_law_plus ["q", "r"] (spZ K (pure2 (fun (q : (Int) × (Int)) (r : (Int) × (Int)) => Small q ∧ Small r) m_law_plus)) := by
  refine fn_z T.D_law_plus.fn sc_law_plus (by rintro _ _ _ ⟨q, r, rfl, hp, rfl, rfl⟩; rfl) (by rintro _ _ _ ⟨q, r, rfl, hp, rfl, rfl⟩; exact ⟨rfl, rfl⟩) (fun A B ss r ss' hr h => ?_)
  obtain ⟨q, r, rfl, hp, rfl, rfl⟩ := h
  obtain ⟨⟨a1, a2, a3, a4⟩, b1, b2, b3, b4⟩ := hp
  refine zs_ret (ze_call (ok_law_fraction T) (hr.mono (by decide)) T.D_law_fraction.g T.D_law_fraction.fn.kp T.D_law_fraction.b (za_cons (ze_add (ze_mul (ze_fst (ze_var 0)) (ze_snd (ze_var 1)) ?_) (ze_mul (ze_fst (ze_var 1)) (ze_snd (ze_var 0)) ?_)) (za_cons (ze_mul (ze_snd (ze_var 0)) (ze_snd (ze_var 1)) ?_) za_nil)) ⟨[_, _], rfl⟩ ⟨_, _, rfl, ?_, rfl, rfl⟩) ⟨?_, rfl⟩
  · first | exact .inl (.inl ⟨by omega, by omega⟩) | exact .inl (.inr ⟨by omega, by omega⟩)  -- 0
  · first | exact .inl (.inl ⟨by omega, by omega⟩) | exact .inl (.inr ⟨by omega, by omega⟩)  -- 1
  · first | exact .inl (.inl ⟨by omega, by omega⟩) | exact .inl (.inr ⟨by omega, by omega⟩)  -- 2
  · exact plus_pre ⟨a1, a2, a3, a4⟩ ⟨b1, b2, b3, b4⟩  -- 3
  · rfl
def m_law_bounds (left : Int) : ((Int) × (Int)) × ((Int) × (Int)) := let low_1 := (lfrac ((left % (9 : Int)) - (4 : Int)) ((1 : Int) + ((left / (9 : Int)) % (3 : Int)))); (low_1, (m_law_plus low_1 (lfrac ((left / (27 : Int)) % (7 : Int)) ((1 : Int) + ((left / (189 : Int)) % (2 : Int))))))
abbrev s_law_bounds : Stmt := topS 8
theorem sc_law_bounds : FnScope ["left", "low"] ["left"] (defScope s_law_bounds) := ⟨rfl, rfl, rfl, by decide +kernel, rfl, by decide +kernel, by decide +kernel⟩
theorem ok_law_bounds (T : Txt K mg) : FnOk P w K mg base CX0 3 T.f_law_bounds T.d_law_bounds ["left"] (spZ K (pure1 (fun (left : Int) => True) m_law_bounds)) := by
  refine fn_z T.D_law_bounds.fn sc_law_bounds (by rintro _ _ _ ⟨left, rfl, hp, rfl, rfl⟩; rfl) (by rintro _ _ _ ⟨left, rfl, hp, rfl, rfl⟩; exact ⟨rfl, rfl⟩) (fun A B ss r ss' hr h => ?_)
  obtain ⟨left, rfl, hp, rfl, rfl⟩ := h
  refine zs_ctx ⟨[_], [], [_, _]⟩ rfl ?_
  refine zs_set 1 (ze_call (ok_law_fraction T) (hr.mono (by decide)) T.D_law_fraction.g T.D_law_fraction.fn.kp T.D_law_fraction.b (za_cons (ze_sub (ze_mod (ze_var 0) ze_int (by decide)) ze_int) (za_cons (ze_add ze_int (ze_mod (ze_div (ze_var 0) ze_int (div_small (by decide) (by decide))) ze_int (by decide))) za_nil)) ⟨[_, _], rfl⟩ ⟨_, _, rfl, ?_, rfl, rfl⟩) ?_ (hn := sc_law_bounds.nd)
  · exact ⟨⟨by omega, by omega⟩, by omega, by omega⟩  -- 0
  refine zs_ret (ze_pair (ze_var 1) (ze_call (ok_law_plus T) (hr.mono (by decide)) T.D_law_plus.g T.D_law_plus.fn.kp T.D_law_plus.b (za_cons (ze_var 1) (za_cons (ze_call (ok_law_fraction T) (hr.mono (by decide)) T.D_law_fraction.g T.D_law_fraction.fn.kp T.D_law_fraction.b (za_cons (ze_mod (ze_div (ze_var 0) ze_int (div_small (by decide) (by decide))) ze_int (by decide)) (za_cons (ze_add ze_int (ze_mod (ze_div (ze_var 0) ze_int (div_small (by decide) (by decide))) ze_int (by decide))) za_nil)) ⟨[_, _], rfl⟩ ⟨_, _, rfl, ?_, rfl, rfl⟩) za_nil)) ⟨[_, _], rfl⟩ ⟨_, _, rfl, ?_, rfl, rfl⟩)) ⟨?_, rfl⟩
  · exact ⟨⟨by omega, by omega⟩, by omega, by omega⟩  -- 1
  · exact ⟨lfrac_small (by omega) (by omega) (by omega) (by omega), lfrac_small (by omega) (by omega) (by omega) (by omega)⟩  -- 2
  · rfl
def m_law_shares (left : Int) (many : Int) : (List ((Int) × (Int))) × (Int) := let f_3 := (List.foldl (fun (s1 : (List ((Int) × (Int))) × (Int)) (y1 : Int) => let found_1 := (s1.1 ++ [(ixD [((0 : Int), (1 : Int)), ((1 : Int), (1 : Int)), ((-(1 : Int)), (1 : Int)), ((2 : Int), (1 : Int)), ((-(1 : Int)), (2 : Int))] (s1.2 % (5 : Int)))]); let left_2 := (s1.2 / (5 : Int)); (found_1, left_2)) (([] : List ((Int) × (Int))), left) (rgI (many).toNat)); (f_3.1, f_3.2)
abbrev s_law_shares : Stmt := topS 9
theorem sc_law_shares : FnScope ["left", "many", "found", "k"] ["left", "many"] (defScope s_law_shares) := ⟨rfl, rfl, rfl, by decide +kernel, rfl, by decide +kernel, by decide +kernel⟩
theorem ok_law_shares (T : Txt K mg) : FnOk P w K mg base CX0 1 T.f_law_shares T.d_law_shares ["left", "many"] (spZ K (pure2 (fun (left : Int) (many : Int) => 0 ≤ many ∧ many ≤ 3) m_law_shares)) := by
  refine fn_z T.D_law_shares.fn sc_law_shares (by rintro _ _ _ ⟨left, many, rfl, hp, rfl, rfl⟩; rfl) (by rintro _ _ _ ⟨left, many, rfl, hp, rfl, rfl⟩; exact ⟨rfl, rfl⟩) (fun A B ss r ss' hr h => ?_)
  obtain ⟨left, many, rfl, hp, rfl, rfl⟩ := h
  refine zs_ctx ⟨[_, _], [], [_, _, _, _]⟩ rfl ?_
  refine zs_setL 2 (ze_nilT (α := (Int) × (Int))) ?_ (hn := sc_law_shares.nd)
  refine zs_ctx ⟨[_, _], [_], [_, _, .loc 0, _]⟩ rfl ?_
  refine zs_foldU (zit_rng1 (za_cons (ze_var 1) za_nil) T.z_range ?_ ?_) (fun b C => ⟨C.P, (C.L.set 0 (.ls ((b.1).map Sh.of))), ((C.G.set 0 (Sh.of (b.2))).set 3 .any)⟩) (fun (s1 : (List ((Int) × (Int))) × (Int)) (y1 : Int) => let found_1 := (s1.1 ++ [(ixD [((0 : Int), (1 : Int)), ((1 : Int), (1 : Int)), ((-(1 : Int)), (1 : Int)), ((2 : Int), (1 : Int)), ((-(1 : Int)), (2 : Int))] (s1.2 % (5 : Int)))]); let left_2 := (s1.2 / (5 : Int)); (found_1, left_2)) (([] : List ((Int) × (Int))), left) ⟨rfl, rfl, (by repeat (first | exact LeG.nil | refine LeG.keep ?_ | refine LeG.drop ?_))⟩ (fun _ => rfl) (fun pre1 y1 post1 hx1 => ⟨_, (zg_name 3 (hn := sc_law_shares.nd)), ?_⟩) ?_
  · omega  -- 2
  · omega  -- 3
  · refine zs_ctx ⟨[_, _], [_], [_, _, .loc 0, _]⟩ rfl ?_
    refine zs_expr (ze_appT (ze_varL 2) (ze_getD (ze_list (xs := [_, _, _, _, _]) (za_cons (ze_pair ze_int ze_int) (za_cons (ze_pair ze_int ze_int) (za_cons (ze_pair (ze_neg ze_int) ze_int) (za_cons (ze_pair ze_int ze_int) (za_cons (ze_pair (ze_neg ze_int) ze_int) za_nil)))))) (ze_mod (ze_var 0) ze_int (by decide)) ?_) (hl := ?_)) ?_
    · have hb1 := mem_rgI.mp (mid_mem hx1); exact isSome_at (by omega) (by first | omega | (simp only [List.length_cons, List.length_nil, List.length_map, rgI_len]; omega))  -- 0
    · have hb1 := mem_rgI.mp (mid_mem hx1); refine Nat.le_trans (foldl_le (fun (s : (List ((Int) × (Int))) × (Int)) => (s.1).length) (fun s x => by simp) pre1 _) ?_; have e := congrArg List.length hx1; simp only [List.length_append, List.length_cons, rgI_len, List.length_map, List.length_zip] at e; simp only [List.length_nil]; omega  -- 1
    refine zs_ctx ⟨[_, _], [_], [_, _, .loc 0, _]⟩ rfl ?_
    refine zs_set 0 (ze_div (ze_var 0) ze_int (div_small (by decide) (by decide))) ?_ (hn := sc_law_shares.nd)
    refine zs_nil ?_
    exact ⟨(fits_of (by repeat (first | exact .nil | refine .lst ?_ | refine .dts ?_ | refine .oth rfl ?_)) (by repeat (first | exact .nil | refine .lst ?_ | refine .dts ?_ | refine .oth rfl ?_))), rfl, rfl, (by repeat (first | exact LeG.nil | refine LeG.keep ?_ | refine LeG.drop ?_))⟩
  refine zs_frz 0 rfl data_of ?_
  refine zs_ret (ze_pair (ze_varD 2) (ze_var 0)) ⟨?_, rfl⟩
  · rfl
def m_law_plan (script : List (Int)) : T3 (List (((Int) × (Int)) × ((Int) × (Int)))) (List (((Int) × (Int)) × ((Int) × (Int)))) (List (T3 (List ((Int) × (Int))) (List ((Int) × (Int))) ((Int) × (Int)))) := let cell_1 := (m_law_cell_at script (0 : Int)); let sizes_2 := (((rgI (((1 : Int) + (cell_1 % (3 : Int)))).toNat)).map (fun x1 => (m_law_bounds (m_law_mixed (m_law_cell_at script ((1 : Int) + x1)) x1)))); let shims_3 := (((rgI (((cell_1 / (3 : Int)) % (3 : Int))).toNat)).map (fun x2 => (m_law_bounds (m_law_mixed (m_law_cell_at script ((4 : Int) + x2)) ((4 : Int) + x2))))); let f_8 := (List.foldl (fun (s3 : List (T3 (List ((Int) × (Int))) (List ((Int) × (Int))) ((Int) × (Int)))) (y3 : Int) => let left_4 := (m_law_mixed (m_law_cell_at script ((26 : Int) + y3)) ((6 : Int) + y3)); let t_5 := (m_law_shares left_4 ((sizes_2).length : Int)); let t_6 := (m_law_shares t_5.2 ((shims_3).length : Int)); let demands_7 := (s3 ++ [(T3.mk t_5.1 t_6.1 (lfrac ((t_6.2 % (15 : Int)) - (4 : Int)) ((1 : Int) + ((t_6.2 / (15 : Int)) % (2 : Int)))))]); demands_7) ([] : List (T3 (List ((Int) × (Int))) (List ((Int) × (Int))) ((Int) × (Int)))) (rgI (((cell_1 / (9 : Int)) % (ixD [(13 : Int), (13 : Int), (5 : Int)] ((shims_3).length : Int)))).toNat)); (T3.mk sizes_2 shims_3 f_8)
abbrev s_law_plan : Stmt := topS 10
theorem sc_law_plan : FnScope ["script", "cell", "sizes", "shims", "demands", "k", "left", "a", "b"] ["script"] (defScope s_law_plan) := ⟨rfl, rfl, rfl, by decide +kernel, rfl, by decide +kernel, by decide +kernel⟩
theorem ok_law_plan (T : Txt K mg) : FnOk P w K mg base CX0 4 T.f_law_plan T.d_law_plan ["script"] (spZ K (pure1 (fun (script : List (Int)) => True) m_law_plan)) := by
  refine fn_z T.D_law_plan.fn sc_law_plan (by rintro _ _ _ ⟨script, rfl, hp, rfl, rfl⟩; rfl) (by rintro _ _ _ ⟨script, rfl, hp, rfl, rfl⟩; exact ⟨rfl, rfl⟩) (fun A B ss r ss' hr h => ?_)
  obtain ⟨script, rfl, hp, rfl, rfl⟩ := h
  refine zs_ctx ⟨[_], [], [_, _, _, _, _, _, _, _, _]⟩ rfl ?_
  refine zs_set 1 (ze_call (ok_law_cell_at T) (hr.mono (by decide)) T.D_law_cell_at.g T.D_law_cell_at.fn.kp T.D_law_cell_at.b (za_cons (ze_var 0) (za_cons ze_int za_nil)) ⟨[_, _], rfl⟩ ⟨_, _, rfl, ?_, rfl, rfl⟩) ?_ (hn := sc_law_plan.nd)
  · omega  -- 0
  refine zs_ctx ⟨[_], [], [_, _, _, _, _, _, _, _, _]⟩ rfl ?_
  refine zs_setC 2 (zc_map1 [("k", 5)] (zit_rng1 (za_cons (ze_add ze_int (ze_mod (ze_var 1) ze_int (by decide))) za_nil) T.z_range ?_ ?_) _ _ (fun x1 hxx1 => ⟨(zg_name' 5 (hn := sc_law_plan.nd)), (ze_call (ok_law_bounds T) (hr.mono (by decide)) T.D_law_bounds.g T.D_law_bounds.fn.kp T.D_law_bounds.b (za_cons (ze_call (ok_law_mixed T) (hr.mono (by decide)) T.D_law_mixed.g T.D_law_mixed.fn.kp T.D_law_mixed.b (za_cons (ze_call (ok_law_cell_at T) (hr.mono (by decide)) T.D_law_cell_at.g T.D_law_cell_at.fn.kp T.D_law_cell_at.b (za_cons (ze_var 0) (za_cons (ze_add ze_int (ze_var 5)) za_nil)) ⟨[_, _], rfl⟩ ⟨_, _, rfl, ?_, rfl, rfl⟩) (za_cons (ze_var 5) za_nil)) ⟨[_, _], rfl⟩ ⟨_, _, rfl, ?_, rfl, rfl⟩) za_nil) ⟨[_], rfl⟩ ⟨_, rfl, ?_, rfl, rfl⟩)⟩) ?_) ?_ sc_law_plan.nd
  · omega  -- 1
  · omega  -- 2
  · have hbx1 := mem_rgI.mp hxx1; omega  -- 3
  · have hbx1 := mem_rgI.mp hxx1; omega  -- 4
  · have hbx1 := mem_rgI.mp hxx1; trivial  -- 5
  · first | omega | (simp only [List.length_map, rgI_len, List.length_zip]; omega)  -- 6
  refine zs_ctx ⟨[_], [], [_, _, _, _, _, _, _, _, _]⟩ rfl ?_
  refine zs_setC 3 (zc_map1 [("k", 5)] (zit_rng1 (za_cons (ze_mod (ze_div (ze_var 1) ze_int (div_small (by decide) (by decide))) ze_int (by decide)) za_nil) T.z_range ?_ ?_) _ _ (fun x2 hxx2 => ⟨(zg_name' 5 (hn := sc_law_plan.nd)), (ze_call (ok_law_bounds T) (hr.mono (by decide)) T.D_law_bounds.g T.D_law_bounds.fn.kp T.D_law_bounds.b (za_cons (ze_call (ok_law_mixed T) (hr.mono (by decide)) T.D_law_mixed.g T.D_law_mixed.fn.kp T.D_law_mixed.b (za_cons (ze_call (ok_law_cell_at T) (hr.mono (by decide)) T.D_law_cell_at.g T.D_law_cell_at.fn.kp T.D_law_cell_at.b (za_cons (ze_var 0) (za_cons (ze_add ze_int (ze_var 5)) za_nil)) ⟨[_, _], rfl⟩ ⟨_, _, rfl, ?_, rfl, rfl⟩) (za_cons (ze_add ze_int (ze_var 5)) za_nil)) ⟨[_, _], rfl⟩ ⟨_, _, rfl, ?_, rfl, rfl⟩) za_nil) ⟨[_], rfl⟩ ⟨_, rfl, ?_, rfl, rfl⟩)⟩) ?_) ?_ sc_law_plan.nd
  · omega  -- 7
  · omega  -- 8
  · have hbx2 := mem_rgI.mp hxx2; omega  -- 9
  · have hbx2 := mem_rgI.mp hxx2; omega  -- 10
  · have hbx2 := mem_rgI.mp hxx2; trivial  -- 11
  · first | omega | (simp only [List.length_map, rgI_len, List.length_zip]; omega)  -- 12
  refine zs_ctx ⟨[_], [], [_, _, _, _, _, _, _, _, _]⟩ rfl ?_
  refine zs_setL 4 (ze_nilT (α := T3 (List ((Int) × (Int))) (List ((Int) × (Int))) ((Int) × (Int)))) ?_ (hn := sc_law_plan.nd)
  refine zs_ctx ⟨[_], [_], [_, _, _, _, .loc 0, _, _, _, _]⟩ rfl ?_
  refine zs_foldU (zit_rng1 (za_cons (ze_mod (ze_div (ze_var 1) ze_int (div_small (by decide) (by decide))) (ze_getD (ze_list (xs := [_, _, _]) (za_cons ze_int (za_cons ze_int (za_cons ze_int za_nil)))) (ze_len (za_cons (ze_var 3) za_nil) T.z_len) ?_) ?_) za_nil) T.z_range ?_ ?_) (fun b C => ⟨C.P, (C.L.set 0 (.ls ((b).map Sh.of))), ((((C.G.set 6 .any).set 7 .any).set 8 .any).set 5 .any)⟩) (let cell_1 := (m_law_cell_at script (0 : Int)); let sizes_2 := (((rgI (((1 : Int) + (cell_1 % (3 : Int)))).toNat)).map (fun x1 => (m_law_bounds (m_law_mixed (m_law_cell_at script ((1 : Int) + x1)) x1)))); let shims_3 := (((rgI (((cell_1 / (3 : Int)) % (3 : Int))).toNat)).map (fun x2 => (m_law_bounds (m_law_mixed (m_law_cell_at script ((4 : Int) + x2)) ((4 : Int) + x2))))); (fun (s3 : List (T3 (List ((Int) × (Int))) (List ((Int) × (Int))) ((Int) × (Int)))) (y3 : Int) => let left_4 := (m_law_mixed (m_law_cell_at script ((26 : Int) + y3)) ((6 : Int) + y3)); let t_5 := (m_law_shares left_4 ((sizes_2).length : Int)); let t_6 := (m_law_shares t_5.2 ((shims_3).length : Int)); let demands_7 := (s3 ++ [(T3.mk t_5.1 t_6.1 (lfrac ((t_6.2 % (15 : Int)) - (4 : Int)) ((1 : Int) + ((t_6.2 / (15 : Int)) % (2 : Int)))))]); demands_7)) (let cell_1 := (m_law_cell_at script (0 : Int)); let sizes_2 := (((rgI (((1 : Int) + (cell_1 % (3 : Int)))).toNat)).map (fun x1 => (m_law_bounds (m_law_mixed (m_law_cell_at script ((1 : Int) + x1)) x1)))); let shims_3 := (((rgI (((cell_1 / (3 : Int)) % (3 : Int))).toNat)).map (fun x2 => (m_law_bounds (m_law_mixed (m_law_cell_at script ((4 : Int) + x2)) ((4 : Int) + x2))))); ([] : List (T3 (List ((Int) × (Int))) (List ((Int) × (Int))) ((Int) × (Int))))) ⟨rfl, rfl, (by repeat (first | exact LeG.nil | refine LeG.keep ?_ | refine LeG.drop ?_))⟩ (fun _ => rfl) (fun pre3 y3 post3 hx3 => ⟨_, (zg_name 5 (hn := sc_law_plan.nd)), ?_⟩) ?_
  · exact isSome_at (by omega) (by simp only [List.length_cons, List.length_nil, List.length_map, rgI_len]; omega)  -- 19
  · exact (plan_at (by simp only [List.length_map, rgI_len]; omega) (by simp only [List.length_map, rgI_len]; omega)).1  -- 20
  · exact Int.le_trans (Int.le_of_lt (Int.lt_of_lt_of_le (Int.emod_lt_of_pos _ (plan_at (by simp only [List.length_map, rgI_len]; omega) (by simp only [List.length_map, rgI_len]; omega)).1) (plan_at (by simp only [List.length_map, rgI_len]; omega) (by simp only [List.length_map, rgI_len]; omega)).2)) (by decide)  -- 21
  · exact Int.le_trans (by decide) (Int.emod_nonneg _ (Int.ne_of_gt (plan_at (by simp only [List.length_map, rgI_len]; omega) (by simp only [List.length_map, rgI_len]; omega)).1))  -- 22
  · refine zs_ctx ⟨[_], [_], [_, _, _, _, .loc 0, _, _, _, _]⟩ rfl ?_
    refine zs_set 6 (ze_call (ok_law_mixed T) (hr.mono (by decide)) T.D_law_mixed.g T.D_law_mixed.fn.kp T.D_law_mixed.b (za_cons (ze_call (ok_law_cell_at T) (hr.mono (by decide)) T.D_law_cell_at.g T.D_law_cell_at.fn.kp T.D_law_cell_at.b (za_cons (ze_var 0) (za_cons (ze_add ze_int (ze_var 5)) za_nil)) ⟨[_, _], rfl⟩ ⟨_, _, rfl, ?_, rfl, rfl⟩) (za_cons (ze_add ze_int (ze_var 5)) za_nil)) ⟨[_, _], rfl⟩ ⟨_, _, rfl, ?_, rfl, rfl⟩) ?_ (hn := sc_law_plan.nd)
    · have hb3 := mem_rgI.mp (mid_mem hx3); have hq := Int.lt_of_lt_of_le hb3.2 (Int.ofNat_le.mpr (plan_many (by simp only [List.length_map, rgI_len]; omega) (by simp only [List.length_map, rgI_len]; omega))); omega  -- 13
    · have hb3 := mem_rgI.mp (mid_mem hx3); have hq := Int.lt_of_lt_of_le hb3.2 (Int.ofNat_le.mpr (plan_many (by simp only [List.length_map, rgI_len]; omega) (by simp only [List.length_map, rgI_len]; omega))); omega  -- 14
    refine zs_ctx ⟨[_], [_], [_, _, _, _, .loc 0, _, _, _, _]⟩ rfl ?_
    refine zs_asg (ze_call (ok_law_shares T) (hr.mono (by decide)) T.D_law_shares.g T.D_law_shares.fn.kp T.D_law_shares.b (za_cons (ze_var 6) (za_cons (ze_len (za_cons (ze_var 2) za_nil) T.z_len) za_nil)) ⟨[_, _], rfl⟩ ⟨_, _, rfl, ?_, rfl, rfl⟩) (ZG'.zg (zg_pair' (zgs_cons (zg_name' 7 (hn := sc_law_plan.nd)) (zgs_cons (zg_name' 6 (hn := sc_law_plan.nd)) zgs_nil)))) ?_
    · simp only [List.length_map, rgI_len]; omega  -- 15
    refine zs_ctx ⟨[_], [_], [_, _, _, _, .loc 0, _, _, _, _]⟩ rfl ?_
    refine zs_asg (ze_call (ok_law_shares T) (hr.mono (by decide)) T.D_law_shares.g T.D_law_shares.fn.kp T.D_law_shares.b (za_cons (ze_var 6) (za_cons (ze_len (za_cons (ze_var 3) za_nil) T.z_len) za_nil)) ⟨[_, _], rfl⟩ ⟨_, _, rfl, ?_, rfl, rfl⟩) (ZG'.zg (zg_pair' (zgs_cons (zg_name' 8 (hn := sc_law_plan.nd)) (zgs_cons (zg_name' 6 (hn := sc_law_plan.nd)) zgs_nil)))) ?_
    · simp only [List.length_map, rgI_len]; omega  -- 16
    refine zs_ctx ⟨[_], [_], [_, _, _, _, .loc 0, _, _, _, _]⟩ rfl ?_
    refine zs_expr (ze_appT (ze_varL 4) (ze_trip (ze_var 7) (ze_var 8) (ze_call (ok_law_fraction T) (hr.mono (by decide)) T.D_law_fraction.g T.D_law_fraction.fn.kp T.D_law_fraction.b (za_cons (ze_sub (ze_mod (ze_var 6) ze_int (by decide)) ze_int) (za_cons (ze_add ze_int (ze_mod (ze_div (ze_var 6) ze_int (div_small (by decide) (by decide))) ze_int (by decide))) za_nil)) ⟨[_, _], rfl⟩ ⟨_, _, rfl, ?_, rfl, rfl⟩)) (hl := ?_)) ?_
    · have hb3 := mem_rgI.mp (mid_mem hx3); exact ⟨⟨by omega, by omega⟩, by omega, by omega⟩  -- 17
    · refine Nat.le_trans (foldl_le (fun (s : List (T3 (List (Int × Int)) (List (Int × Int)) (Int × Int))) => s.length) (fun s x => by simp) pre3 _) ?_; have e := congrArg List.length hx3; have hq := plan_many (c := m_law_cell_at script 0 / 9) (n := ((List.map (fun x2 => m_law_bounds (m_law_mixed (m_law_cell_at script (4 + x2)) (4 + x2))) (rgI (m_law_cell_at script 0 / 3 % 3).toNat)).length : Int)) (by simp only [List.length_map, rgI_len]; omega) (by simp only [List.length_map, rgI_len]; omega); simp only [List.length_append, List.length_cons, rgI_len] at e; simp only [List.length_nil]; omega  -- 18
    refine zs_nil ?_
    exact ⟨(fits_of (by repeat (first | exact .nil | refine .lst ?_ | refine .dts ?_ | refine .oth rfl ?_)) (by repeat (first | exact .nil | refine .lst ?_ | refine .dts ?_ | refine .oth rfl ?_))), rfl, rfl, (by repeat (first | exact LeG.nil | refine LeG.keep ?_ | refine LeG.drop ?_))⟩
  refine zs_frz 0 rfl data_of ?_
  refine zs_ret (ze_trip (ze_var 2) (ze_var 3) (ze_varD 4)) ⟨?_, rfl⟩
  · rfl
def m_law_copy (plan : T3 (List (((Int) × (Int)) × ((Int) × (Int)))) (List (((Int) × (Int)) × ((Int) × (Int)))) (List (T3 (List ((Int) × (Int))) (List ((Int) × (Int))) ((Int) × (Int))))) : T3 (List (((Int) × (Int)) × ((Int) × (Int)))) (List (((Int) × (Int)) × ((Int) × (Int)))) (List (T3 (List ((Int) × (Int))) (List ((Int) × (Int))) ((Int) × (Int)))) := let t_1 := plan; (T3.mk t_1.a t_1.b ((t_1.c).map (fun x1 => (T3.mk x1.a x1.b x1.c))))
abbrev s_law_copy : Stmt := topS 12
theorem sc_law_copy : FnScope ["plan", "sizes", "shims", "demands", "a", "b", "c"] ["plan"] (defScope s_law_copy) := ⟨rfl, rfl, rfl, by decide +kernel, rfl, by decide +kernel, by decide +kernel⟩
theorem ok_law_copy (T : Txt K mg) : FnOk P w K mg base CX0 1 T.f_law_copy T.d_law_copy ["plan"] (spZ K (pure1 (fun (plan : T3 (List (((Int) × (Int)) × ((Int) × (Int)))) (List (((Int) × (Int)) × ((Int) × (Int)))) (List (T3 (List ((Int) × (Int))) (List ((Int) × (Int))) ((Int) × (Int))))) => PlanOk plan) m_law_copy)) := by
  refine fn_z T.D_law_copy.fn sc_law_copy (by rintro _ _ _ ⟨plan, rfl, hp, rfl, rfl⟩; rfl) (by rintro _ _ _ ⟨plan, rfl, hp, rfl, rfl⟩; exact ⟨rfl, rfl⟩) (fun A B ss r ss' hr h => ?_)
  obtain ⟨plan, rfl, hp, rfl, rfl⟩ := h
  refine zs_ctx ⟨[_], [], [_, _, _, _, _, _, _]⟩ rfl ?_
  refine zs_asg (ze_var 0) (ZG'.zg (zg_trip' (zgs_cons (zg_name' 1 (hn := sc_law_copy.nd)) (zgs_cons (zg_name' 2 (hn := sc_law_copy.nd)) (zgs_cons (zg_name' 3 (hn := sc_law_copy.nd)) zgs_nil))))) ?_
  refine zs_ret (ze_trip (ze_listofD (za_cons (ze_var 1) za_nil) T.z_list) (ze_listofD (za_cons (ze_var 2) za_nil) T.z_list) (ze_comp (zc_map1 [("a", 4), ("b", 5), ("c", 6)] (zit_list (ze_var 3)) _ _ (fun x1 hxx1 => ⟨(zg_trip' (zgs_cons (zg_name' 4 (hn := sc_law_copy.nd)) (zgs_cons (zg_name' 5 (hn := sc_law_copy.nd)) (zgs_cons (zg_name' 6 (hn := sc_law_copy.nd)) zgs_nil)))), (ze_trip (ze_listofD (za_cons (ze_var 4) za_nil) T.z_list) (ze_listofD (za_cons (ze_var 5) za_nil) T.z_list) (ze_var 6))⟩) ?_) sc_law_copy.nd)) ⟨?_, rfl⟩
  · exact Nat.le_trans hp.2.2.2 (by decide)  -- 0
  · rfl
def m_law_order (plan : T3 (List (((Int) × (Int)) × ((Int) × (Int)))) (List (((Int) × (Int)) × ((Int) × (Int)))) (List (T3 (List ((Int) × (Int))) (List ((Int) × (Int))) ((Int) × (Int))))) (cell : Int) : List ((Str) × (Int)) := let f_3 := (List.foldl (fun (s3 : (List ((Str) × (Int))) × (Int)) (y3 : (Str) × (Int)) => let found_1 := (List.take ((s3.2 % (((s3.1).length : Int) + (1 : Int)))).toNat s3.1 ++ [y3] ++ List.drop ((s3.2 % (((s3.1).length : Int) + (1 : Int)))).toNat s3.1); let cell_2 := (s3.2 / (7 : Int)); (found_1, cell_2)) (([] : List ((Str) × (Int))), cell) ((((rgI (((plan.a).length : Int)).toNat)).map (fun x1 => (("size" : Str), x1))) ++ (((rgI (((plan.b).length : Int)).toNat)).map (fun x2 => (("shim" : Str), x2))))); f_3.1
abbrev s_law_order : Stmt := topS 11
theorem sc_law_order : FnScope ["plan", "cell", "found", "thing", "k"] ["plan", "cell"] (defScope s_law_order) := ⟨rfl, rfl, rfl, by decide +kernel, rfl, by decide +kernel, by decide +kernel⟩
theorem ok_law_order (T : Txt K mg) : FnOk P w K mg base CX0 1 T.f_law_order T.d_law_order ["plan", "cell"] (spZ K (pure2 (fun (plan : T3 (List (((Int) × (Int)) × ((Int) × (Int)))) (List (((Int) × (Int)) × ((Int) × (Int)))) (List (T3 (List ((Int) × (Int))) (List ((Int) × (Int))) ((Int) × (Int))))) (cell : Int) => PlanOk plan) m_law_order)) := by
  refine fn_z T.D_law_order.fn sc_law_order (by rintro _ _ _ ⟨plan, cell, rfl, hp, rfl, rfl⟩; rfl) (by rintro _ _ _ ⟨plan, cell, rfl, hp, rfl, rfl⟩; exact ⟨rfl, rfl⟩) (fun A B ss r ss' hr h => ?_)
  obtain ⟨plan, cell, rfl, hp, rfl, rfl⟩ := h
  obtain ⟨p0, p1, p2, p3⟩ := hp
  refine zs_ctx ⟨[_, _], [], [_, _, _, _, _]⟩ rfl ?_
  refine zs_setL 2 (ze_nilT (α := (Str) × (Int))) ?_ (hn := sc_law_order.nd)
  refine zs_ctx ⟨[_, _], [_], [_, _, .loc 0, _, _]⟩ rfl ?_
  refine zs_foldU (zit_list (ze_cat (ze_comp (zc_map1 [("k", 4)] (zit_rng1 (za_cons (ze_len (za_cons (ze_t3a (ze_var 0)) za_nil) T.z_len) za_nil) T.z_range ?_ ?_) _ _ (fun x1 hxx1 => ⟨(zg_name' 4 (hn := sc_law_order.nd)), (ze_pair ze_str (ze_var 4))⟩) ?_) sc_law_order.nd) (ze_comp (zc_map1 [("k", 4)] (zit_rng1 (za_cons (ze_len (za_cons (ze_t3b (ze_var 0)) za_nil) T.z_len) za_nil) T.z_range ?_ ?_) _ _ (fun x2 hxx2 => ⟨(zg_name' 4 (hn := sc_law_order.nd)), (ze_pair ze_str (ze_var 4))⟩) ?_) sc_law_order.nd) ?_)) (fun b C => ⟨C.P, (C.L.set 0 (.ls ((b.1).map Sh.of))), ((C.G.set 1 (Sh.of (b.2))).set 3 .any)⟩) (fun (s3 : (List ((Str) × (Int))) × (Int)) (y3 : (Str) × (Int)) => let found_1 := (List.take ((s3.2 % (((s3.1).length : Int) + (1 : Int)))).toNat s3.1 ++ [y3] ++ List.drop ((s3.2 % (((s3.1).length : Int) + (1 : Int)))).toNat s3.1); let cell_2 := (s3.2 / (7 : Int)); (found_1, cell_2)) (([] : List ((Str) × (Int))), cell) ⟨rfl, rfl, (by repeat (first | exact LeG.nil | refine LeG.keep ?_ | refine LeG.drop ?_))⟩ (fun _ => rfl) (fun pre3 y3 post3 hx3 => ⟨_, (zg_name 3 (hn := sc_law_order.nd)), ?_⟩) ?_
  · omega  -- 4
  · omega  -- 5
  · first | omega | (simp only [List.length_map, rgI_len, List.length_zip]; omega)  -- 6
  · omega  -- 7
  · omega  -- 8
  · first | omega | (simp only [List.length_map, rgI_len, List.length_zip]; omega)  -- 9
  · simp only [List.length_map, rgI_len] <;> omega  -- 10
  · refine zs_ctx ⟨[_, _], [_], [_, _, .loc 0, _, _]⟩ rfl ?_
    refine zs_expr (ze_insert (ze_varL 2) (za_cons (ze_mod (ze_var 1) (ze_add (ze_lenT (za_cons (ze_varL 2) za_nil) T.z_len) ze_int) ?_) (za_cons (ze_var 3) za_nil)) (hl := ?_) (h0 := ?_) (h1 := ?_)) ?_
    · omega  -- 0
    · refine Nat.le_trans (foldl_le (fun (s : (List ((Str) × (Int))) × (Int)) => (s.1).length) (fun s x => by simp; omega) pre3 _) ?_; have e := congrArg List.length hx3; simp only [List.length_append, List.length_cons, rgI_len, List.length_map, List.length_zip] at e; simp only [List.length_nil]; omega  -- 1
    · exact Int.emod_nonneg _ (by omega)  -- 2
    · refine Int.le_trans (Int.le_of_lt (Int.emod_lt_of_pos _ (by omega))) ?_; refine Int.le_trans (Int.add_le_add_right (Int.ofNat_le.mpr (foldl_le (fun (s : (List ((Str) × (Int))) × (Int)) => (s.1).length) (fun s x => by simp; omega) pre3 _)) 1) ?_; have e := congrArg List.length hx3; simp only [List.length_append, List.length_cons, rgI_len, List.length_map, List.length_zip] at e; simp only [List.length_nil]; omega  -- 3
    refine zs_ctx ⟨[_, _], [_], [_, _, .loc 0, _, _]⟩ rfl ?_
    refine zs_set 1 (ze_div (ze_var 1) ze_int (div_small (by decide) (by decide))) ?_ (hn := sc_law_order.nd)
    refine zs_nil ?_
    exact ⟨(fits_of (by repeat (first | exact .nil | refine .lst ?_ | refine .dts ?_ | refine .oth rfl ?_)) (by repeat (first | exact .nil | refine .lst ?_ | refine .dts ?_ | refine .oth rfl ?_))), rfl, rfl, (by repeat (first | exact LeG.nil | refine LeG.keep ?_ | refine LeG.drop ?_))⟩
  refine zs_frz 0 rfl data_of ?_
  refine zs_ret (ze_varD 2) ⟨?_, rfl⟩
  · rfl
end
end P67
namespace P67
open PySem L2 Z
open Enc (enc)
section
variable {P : Program} {w : World} {K : PySem.W.Frag} {mg : Str → Option Value} {base : Heap}
/-! ### an order that is spoilt -/
def th1 (kind : Str) (k cell : Int) : List PyData := [enc (kind, k), enc (kind, k), enc (kind, k + 1), enc (kind, -(1 : Int) - cell / 12 % 9), enc (kind, decide (k = 0)), enc (kind, decide (0 < k))]
def th2 (kind : Str) (k : Int) : List PyData := [enc (("seize" : Str), k), .list [.str kind, .int k], enc kind, .none, enc (T3.mk kind k k), enc (kind, (1000000000000000000000000000000 : Int))]
def th3 (kind : Str) (k : Int) : List PyData := [enc (kind, [k]), .tuple [.str kind, .dict []], enc ([kind], k), .tuple [.dict [], .int k], .tuple [.str kind, .none], .tuple [.str kind], .tuple [], .dict []]
def wordOf (kind : Str) : Str := ixD [("size" : Str), "shim"] (b2n (decide (kind = "size")))
def th4 (kind : Str) (k n : Int) : List PyData := [enc (wordOf kind, k), enc (wordOf kind, k + 1), enc (wordOf kind, n - 1)]
def th5 (kind : Str) (k many : Int) : List PyData := [enc (k, kind), enc (("size" : Str), many + k), enc (("shim" : Str), k - many)]
def things (kind : Str) (k n many cell : Int) : List PyData := th1 kind k cell ++ th2 kind k ++ th3 kind k ++ th4 kind k n ++ th5 kind k many
theorem things_len (kind : Str) (k n many cell : Int) : (things kind k n many cell).length = 26 := rfl
def spoiltAt (order : List (Str × Int)) (x : PyData) (spot : Int) : List PyData := cutP (order.map enc) none (some spot) ++ [x] ++ cutP (order.map enc) (some (spot + 1)) none
def m_spoilt (order : List (Str × Int)) (many cell : Int) : List PyData :=
  let n : Int := order.length
  let spot := cell / 12 % n
  let q := ixD order spot
  let base := spoiltAt order (ixD (things q.1 q.2 n many cell) (cell % 26)) spot
  let way := cell / 312 % 6
  if way = 1 then base.eraseIdx spot.toNat
  else if way = 2 then base ++ [enc (ixD order spot)]
  else if way = 3 then ((order.map enc).set spot.toNat (enc (q.1, (ixD order (cell / 1872 % n)).2))).set (cell / 1872 % n).toNat (enc ((ixD order (cell / 1872 % n)).1, q.2))
  else base
theorem cut_to {α : Type} (xs : List α) (n : Nat) : cutP xs none (some (n : Int)) = xs.take n := by
  unfold cutP
  rw [HT.sIx_none, HT.sIx_nat, List.drop_zero, Nat.sub_zero]
  by_cases h : n ≤ xs.length
  · rw [Nat.min_eq_left h]
  · rw [Nat.min_eq_right (by omega), List.take_of_length_le (by omega), List.take_of_length_le (by omega)]
theorem cut_from {α : Type} (xs : List α) (n : Nat) : cutP xs (some (n : Int)) none = xs.drop n := by
  unfold cutP
  rw [HT.sIx_none, HT.sIx_nat]
  by_cases h : n ≤ xs.length
  · rw [Nat.min_eq_left h, List.take_of_length_le (by rw [List.length_drop]; omega)]
  · rw [Nat.min_eq_right (by omega), Nat.sub_self, List.take_zero, List.drop_of_length_le (by omega)]
theorem spoiltAt_len {order : List (Str × Int)} {x : PyData} {spot : Int} (h0 : 0 ≤ spot) (h : spot < order.length) : (spoiltAt order x spot).length = order.length := by
  obtain ⟨n, rfl⟩ : ∃ n : Nat, spot = n := ⟨spot.toNat, by omega⟩
  unfold spoiltAt
  rw [cut_to, show ((n : Int) + 1) = ((n + 1 : Nat) : Int) by omega, cut_from]
  simp
  omega
abbrev s_law_spoilt : Stmt := topS 13
theorem sc_law_spoilt : FnScope ["order", "many", "cell", "spot", "kind", "k", "things", "word", "found", "way", "other"] ["order", "many", "cell"] (defScope s_law_spoilt) := ⟨rfl, rfl, rfl, by decide +kernel, rfl, by decide +kernel, by decide +kernel⟩
theorem ok_law_spoilt (T : Txt K mg) : FnOk P w K mg base CX0 1 T.f_law_spoilt T.d_law_spoilt ["order", "many", "cell"] (spZ K (pure3 (fun (order : List (Str × Int)) (many cell : Int) => 0 < order.length ∧ order.length ≤ 5) m_spoilt)) := by
  refine fn_z T.D_law_spoilt.fn sc_law_spoilt (by rintro _ _ _ ⟨order, many, cell, rfl, hp, rfl, rfl⟩; rfl) (by rintro _ _ _ ⟨order, many, cell, rfl, hp, rfl, rfl⟩; exact ⟨rfl, rfl⟩) (fun A B ss r ss' hr h => ?_)
  obtain ⟨order, many, cell, rfl, ⟨p1, p2⟩, rfl, rfl⟩ := h
  have hs0 : 0 ≤ cell / 12 % (order.length : Int) := Int.emod_nonneg _ (by omega)
  have hs1 : cell / 12 % (order.length : Int) < order.length := Int.emod_lt_of_pos _ (by omega)
  have ht0 : 0 ≤ cell / 1872 % (order.length : Int) := Int.emod_nonneg _ (by omega)
  have ht1 : cell / 1872 % (order.length : Int) < order.length := Int.emod_lt_of_pos _ (by omega)
  refine zs_ctx ⟨[_, _, _], [], [_, _, _, _, _, _, _, _, _, _, _]⟩ rfl ?_
  refine zs_set 3 (ze_mod (ze_div (ze_var 2) ze_int (div_small (by decide) (by decide))) (ze_len (za_cons (ze_var 0) za_nil) T.z_len) (by omega)) ?_ (hn := sc_law_spoilt.nd)
  refine zs_ctx ⟨[_, _, _], [], [_, _, _, _, _, _, _, _, _, _, _]⟩ rfl ?_
  refine zs_asg (ze_getD (ze_var 0) (ze_var 3) (isSome_at hs0 hs1)) (ZG'.zg (zg_pair' (zgs_cons (zg_name' 4 (hn := sc_law_spoilt.nd)) (zgs_cons (zg_name' 5 (hn := sc_law_spoilt.nd)) zgs_nil)))) ?_
  refine zs_ctx ⟨[_, _, _], [], [_, _, _, _, _, _, _, _, _, _, _]⟩ rfl ?_
  generalize hq : ixD order (cell / 12 % (order.length : Int)) = q
  refine zs_set 6 (ze_list (xs := th1 q.1 q.2 cell) (za_cons (ze_pair (ze_var 4) (ze_var 5)) (za_cons (ze_pair (ze_var 4) (ze_var 5)) (za_cons (ze_pair (ze_var 4) (ze_add (ze_var 5) ze_int)) (za_cons (ze_pair (ze_var 4) (ze_sub (ze_neg ze_int) (ze_mod (ze_div (ze_var 2) ze_int (div_small (by decide) (by decide))) ze_int (by decide))))
    (za_cons (ze_pair (ze_var 4) (ze_eqI (ze_var 5) ze_int)) (za_cons (ze_pair (ze_var 4) (ze_gt (ze_var 5) ze_int)) za_nil))))))) ?_ (hn := sc_law_spoilt.nd)
  refine zs_ctx ⟨[_, _, _], [], [_, _, _, _, _, _, _, _, _, _, _]⟩ rfl ?_
  refine zs_set 6 (ze_cat (ze_var 6) (ze_list (xs := th2 q.1 q.2) (za_cons (ze_pair ze_str (ze_var 5)) (za_cons (ze_frz (ze_lst (za_cons (ze_var 4) (za_cons (ze_var 5) za_nil))) rfl) (za_cons (ze_var 4) (za_cons ze_non (za_cons (ze_trip (ze_var 4) (ze_var 5) (ze_var 5)) (za_cons (ze_pair (ze_var 4) (ze_powL (v := 1000000000000000000000000000000) ze_int ze_int (by decide +kernel))) za_nil))))))) (by show 6 + 6 ≤ 1000000; decide)) ?_ (hn := sc_law_spoilt.nd)
  refine zs_ctx ⟨[_, _, _], [], [_, _, _, _, _, _, _, _, _, _, _]⟩ rfl ?_
  refine zs_set 6 (ze_cat (ze_var 6) (ze_list (xs := th3 q.1 q.2) (za_cons (ze_pair (ze_var 4) (ze_list (xs := [_]) (za_cons (ze_var 5) za_nil))) (za_cons (ze_tup (za_cons (ze_var 4) (za_cons ze_dict0 za_nil)) ⟨[_, _], rfl, rfl⟩) (za_cons (ze_pair (ze_list (xs := [_]) (za_cons (ze_var 4) za_nil)) (ze_var 5)) (za_cons (ze_tup (za_cons ze_dict0 (za_cons (ze_var 5) za_nil)) ⟨[_, _], rfl, rfl⟩)
    (za_cons (ze_tup (za_cons (ze_var 4) (za_cons ze_non za_nil)) ⟨[_, _], rfl, rfl⟩) (za_cons (ze_tup (za_cons (ze_var 4) za_nil) ⟨[_], rfl, rfl⟩) (za_cons (ze_tup za_nil ⟨[], rfl, rfl⟩) (za_cons ze_dict0 za_nil))))))))) (by show 12 + 8 ≤ 1000000; decide)) ?_ (hn := sc_law_spoilt.nd)
  refine zs_ctx ⟨[_, _, _], [], [_, _, _, _, _, _, _, _, _, _, _]⟩ rfl ?_
  refine zs_set 7 (ze_getD (ze_list (xs := [("size" : Str), "shim"]) (za_cons ze_str (za_cons ze_str za_nil))) (ze_intB (za_cons (ze_eqS (ze_var 4) ze_str) za_nil) T.z_int) (by cases decide (q.1 = ("size" : Str)) <;> rfl)) ?_ (hn := sc_law_spoilt.nd)
  refine zs_ctx ⟨[_, _, _], [], [_, _, _, _, _, _, _, _, _, _, _]⟩ rfl ?_
  refine zs_set 6 (ze_cat (ze_var 6) (ze_list (xs := th4 q.1 q.2 order.length) (za_cons (ze_pair (ze_var 7) (ze_var 5)) (za_cons (ze_pair (ze_var 7) (ze_add (ze_var 5) ze_int)) (za_cons (ze_pair (ze_var 7) (ze_sub (ze_len (za_cons (ze_var 0) za_nil) T.z_len) ze_int)) za_nil)))) (by show 20 + 3 ≤ 1000000; decide)) ?_ (hn := sc_law_spoilt.nd)
  refine zs_ctx ⟨[_, _, _], [], [_, _, _, _, _, _, _, _, _, _, _]⟩ rfl ?_
  refine zs_set 6 (ze_cat (ze_var 6) (ze_list (xs := th5 q.1 q.2 many) (za_cons (ze_pair (ze_var 5) (ze_var 4)) (za_cons (ze_pair ze_str (ze_add (ze_var 1) (ze_var 5))) (za_cons (ze_pair ze_str (ze_sub (ze_var 5) (ze_var 1))) za_nil)))) (by show 23 + 3 ≤ 1000000; decide)) ?_ (hn := sc_law_spoilt.nd)
  refine zs_ctx ⟨[_, _, _], [], [_, _, _, _, _, _, Sh.of (things q.1 q.2 order.length many cell), _, _, _, _]⟩ rfl ?_
  have hlb : (cutP (order.map enc) none (some (cell / 12 % (order.length : Int))) : List PyData).length + 1 + (cutP (order.map enc) (some (cell / 12 % (order.length : Int) + 1)) none : List PyData).length = order.length := by
    have := spoiltAt_len (x := .none) hs0 hs1
    simp [spoiltAt] at this
    omega
  refine zs_setL 8 (ze_catL (α := PyData) (ze_cat (α := PyData) (ze_slice (ze_as (ze_var 0) (of_py order).symm) zo_none (zo_some (ze_var 3))) (ze_list (xs := [ixD (things q.1 q.2 order.length many cell) (cell % 26)]) (za_cons (ze_getD (α := PyData) (ze_var 6) (ze_mod (ze_var 2) ze_int (by decide)) (isSome_at (by omega) (by rw [things_len]; omega))) za_nil)) (by simp only [List.length_singleton]; omega))
    (ze_slice (ze_as (ze_var 0) (of_py order).symm) (zo_some (ze_add (ze_var 3) ze_int)) zo_none) (by simp only [List.length_append, List.length_singleton]; omega)) ?_ (hn := sc_law_spoilt.nd)
  refine zs_ctx ⟨[_, _, _], [.ls ((spoiltAt order (ixD (things q.1 q.2 order.length many cell) (cell % 26)) (cell / 12 % (order.length : Int))).map Sh.of)], [_, _, _, _, _, _, _, _, .loc 0, _, _]⟩ rfl ?_
  generalize hx : ixD (things q.1 q.2 order.length many cell) (cell % 26) = x
  have hl := spoiltAt_len (x := x) hs0 hs1
  refine zs_set 9 (ze_mod (ze_div (ze_var 2) ze_int (div_small (by decide) (by decide))) ze_int (by decide)) ?_ (hn := sc_law_spoilt.nd)
  refine zs_ctx ⟨[_, _, _], [_], [_, _, _, _, _, _, _, _, .loc 0, _, _]⟩ rfl ?_
  refine zs_if (zt_eqI (ze_var 9) ze_int) (fun h1 => ?_) (fun h1 => ?_)
  · have g1 := of_decide_eq_true h1
    obtain ⟨n, hn⟩ : ∃ n : Nat, cell / 12 % (order.length : Int) = n := ⟨(cell / 12 % (order.length : Int)).toNat, by omega⟩
    refine zs_expr (ze_popAt (n := n) (ze_varL 8) (za_cons (ze_as (ze_var 3) (by rw [hn])) za_nil) (by rw [hl]; omega) (hl := by omega)) ?_
    refine zs_nil ?_
    refine zs_ctx ⟨[_, _, _], [_], [_, _, _, _, _, _, _, _, .loc 0, _, _]⟩ rfl ?_
    refine zs_if (zt_eqI (ze_var 9) ze_int) (fun h2 => absurd (of_decide_eq_true h2) (by omega)) (fun h2 => ?_)
    refine zs_nil ?_
    refine zs_if (zt_eqI (ze_var 9) ze_int) (fun h2 => absurd (of_decide_eq_true h2) (by omega)) (fun h2 => ?_)
    refine zs_nil ?_
    refine zs_frz 0 rfl data_of ?_
    refine zs_ret (ze_varD 8) ⟨?_, rfl⟩
    have e : m_spoilt order many cell = (spoiltAt order x (cell / 12 % (order.length : Int))).eraseIdx (cell / 12 % (order.length : Int)).toNat := by simp only [m_spoilt, hq, hx, g1, if_true]
    rw [e]
    simp only [hn, Int.toNat_natCast]
  · have g1 := of_decide_eq_false h1
    refine zs_nil ?_
    refine zs_if (zt_eqI (ze_var 9) ze_int) (fun h2 => ?_) (fun h2 => ?_)
    · have g2 := of_decide_eq_true h2
      refine zs_expr (ze_appT (α := PyData) (y := enc (ixD order (cell / 12 % order.length))) (ze_varL 8) (ze_getD (α := Str × Int) (ze_var 0) (ze_var 3) (isSome_at hs0 hs1)) (hl := by omega)) ?_
      refine zs_nil ?_
      refine zs_ctx ⟨[_, _, _], [_], [_, _, _, _, _, _, _, _, .loc 0, _, _]⟩ rfl ?_
      refine zs_if (zt_eqI (ze_var 9) ze_int) (fun h2 => absurd (of_decide_eq_true h2) (by omega)) (fun h2 => ?_)
      refine zs_nil ?_
      refine zs_frz 0 rfl data_of ?_
      refine zs_ret (ze_varD 8) ⟨?_, rfl⟩
      simp only [m_spoilt, hq, hx, g1, g2, if_false, if_true] <;> rfl
    · have g2 := of_decide_eq_false h2
      refine zs_nil ?_
      refine zs_if (zt_eqI (ze_var 9) ze_int) (fun h3 => ?_) (fun h3 => ?_)
      · have g3 := of_decide_eq_true h3
        refine zs_set 10 (ze_mod (ze_div (ze_var 2) ze_int (div_small (by decide) (by decide))) (ze_len (za_cons (ze_var 0) za_nil) T.z_len) (by omega)) ?_ (hn := sc_law_spoilt.nd)
        refine zs_ctx ⟨[_, _, _], [_], [_, _, _, _, _, _, _, _, .loc 0, _, _]⟩ rfl ?_
        refine zs_setL 8 (ze_listof (α := PyData) (za_cons (ze_as (ze_var 0) (of_py order).symm) za_nil) T.z_list) ?_ (hn := sc_law_spoilt.nd)
        refine zs_ctx ⟨[_, _, _], [_, _], [_, _, _, _, _, _, _, _, .loc 1, _, _]⟩ rfl ?_
        refine zs_setIx (α := PyData) (xs := order.map enc) (y := enc (q.1, (ixD order (cell / 1872 % order.length)).2)) (ze_pair (ze_var 4) (ze_snd (ze_getD (ze_var 0) (ze_var 10) (isSome_at ht0 ht1)))) (ze_varL 8) (ze_var 3) (cell / 12 % (order.length : Int)).toNat (by simp only [List.length_map]; omega) (Int.toNat_of_nonneg hs0).symm rfl ?_
        refine zs_ctx ⟨[_, _, _], [_, _], [_, _, _, _, _, _, _, _, .loc 1, _, _]⟩ rfl ?_
        refine zs_setIx (α := PyData) (xs := (order.map enc).set (cell / 12 % (order.length : Int)).toNat (enc (q.1, (ixD order (cell / 1872 % order.length)).2))) (y := enc ((ixD order (cell / 1872 % order.length)).1, q.2)) (ze_pair (ze_fst (ze_getD (ze_var 0) (ze_var 10) (isSome_at ht0 ht1))) (ze_var 5)) (ze_varL 8) (ze_var 10) (cell / 1872 % (order.length : Int)).toNat (by simp only [List.length_set, List.length_map]; omega) (Int.toNat_of_nonneg ht0).symm rfl ?_
        refine zs_ctx ⟨[_, _, _], [_, _], [_, _, _, _, _, _, _, _, .loc 1, _, _]⟩ rfl ?_
        refine zs_nil ?_
        refine zs_frz 1 rfl data_of ?_
        refine zs_ret (ze_varD 8) ⟨?_, rfl⟩
        simp only [m_spoilt, hq, g1, g2, g3, if_false, if_true] <;> rfl
      · have g3 := of_decide_eq_false h3
        refine zs_nil ?_
        refine zs_frz 0 rfl data_of ?_
        refine zs_ret (ze_varD 8) ⟨?_, rfl⟩
        simp only [m_spoilt, hq, hx, g1, g2, g3, if_false] <;> rfl
end
end P67
namespace P67
open PySem L2 Z
open Enc (enc)
section
variable {P : Program} {w : World} {K : PySem.W.Frag} {mg : Str → Option Value} {base : Heap}
/-! ### is_order -/
def sec : PyData → PyData
  | .tuple (_ :: d :: _) => d
  | _ => .none
def fst' : PyData → PyData
  | .tuple (d :: _) => d
  | _ => .none
def hit (ds : List PyData) (x : PyData) : Bool := ds.any fun z => peq z x
def cut1 (ds : List PyData) (x : PyData) : List PyData := ds.eraseIdx (ds.findIdx fun z => peq z x)
def ordGo : List PyData → List PyData → Bool
  | _, [] => true
  | ds, x :: xs => if (!isT x || (!hit ds x || isB (sec x))) = true then false else ordGo (cut1 ds x) xs
def due0 (plan : Plan) : List (Str × Int) := (rgI ((plan.a.length : Int)).toNat).map (fun k => (("size" : Str), k)) ++ (rgI ((plan.b.length : Int)).toNat).map (fun k => (("shim" : Str), k))
def m_is_order (plan : Plan) (order : List PyData) : Bool := if order.length ≠ (due0 plan).length then false else ordGo ((due0 plan).map enc) order
def OrdOk (o : List PyData) : Prop := o.length ≤ 20 ∧ PyData.depthAll o ≤ 10
def twos (ds : List PyData) : Prop := ∀ z ∈ ds, ∃ s i, z = .tuple [.str s, .int i]
theorem twos_depth : ∀ {ds : List PyData}, twos ds → PyData.depthAll ds ≤ 1
  | [], _ => Nat.zero_le _
  | z :: ds, h => by
    obtain ⟨s, i, rfl⟩ := h z (List.mem_cons_self ..)
    have := twos_depth (ds := ds) fun z m => h z (List.mem_cons_of_mem _ m)
    simp only [PyData.depthAll, PyData.depth]
    omega
theorem isT_eq {x : PyData} (h : isT x = true) : ∃ ds, x = .tuple ds := by cases x <;> first | exact ⟨_, rfl⟩ | cases h
theorem peq_two {s : Str} {i : Int} {ds : List PyData} (h : peq (.tuple [.str s, .int i]) (.tuple ds) = true) : ∃ d0 d1, ds = [d0, d1] ∧ peq (.str s) d0 = true ∧ peq (.int i) d1 = true := by
  rw [peq_tup] at h
  match ds, h with
  | [], h => rw [peqL_cnil] at h; cases h
  | [d0], h => rw [peqL_cons, peqL_cnil, Bool.and_false] at h; cases h
  | [d0, d1], h =>
    rw [peqL_cons, peqL_cons, peqL_nil, Bool.and_true, Bool.and_eq_true] at h
    exact ⟨d0, d1, rfl, h.1, h.2⟩
  | d0 :: d1 :: d2 :: r, h => rw [peqL_cons, peqL_cons, peqL_nilc, Bool.and_false, Bool.and_false] at h; cases h
theorem hit_two {ds es : List PyData} (h : twos ds) (hh : hit ds (.tuple es) = true) : ∃ d0 d1, es = [d0, d1] := by
  obtain ⟨z, m, e⟩ := List.any_eq_true.mp hh
  obtain ⟨s, i, rfl⟩ := h z m
  obtain ⟨d0, d1, e, _⟩ := peq_two e
  exact ⟨d0, d1, e⟩
theorem cut1_sub {ds : List PyData} {x z : PyData} (h : z ∈ cut1 ds x) : z ∈ ds := List.mem_of_mem_eraseIdx h
theorem hit_at {ds : List PyData} {x : PyData} (h : hit ds x = true) : ∃ hn : (ds.findIdx fun z => peq z x) < ds.length, peq ds[ds.findIdx fun z => peq z x] x = true ∧ ∀ m (hm : m < ds.length), m < (ds.findIdx fun z => peq z x) → peq ds[m] x = false := by
  obtain ⟨z, m, e⟩ := List.any_eq_true.mp h
  have hn : (ds.findIdx fun z => peq z x) < ds.length := List.findIdx_lt_length_of_exists ⟨z, m, e⟩
  refine ⟨hn, List.findIdx_getElem (w := hn), fun m hm hlt => ?_⟩
  have := List.not_of_lt_findIdx hlt
  simpa using this
theorem due_len {plan : Plan} : (due0 plan).length = plan.a.length + plan.b.length := by simp [due0, rgI_len]
theorem due_twos {plan : Plan} : twos ((due0 plan).map enc) := fun z m => by
  obtain ⟨q, _, rfl⟩ := List.mem_map.mp m
  exact ⟨q.1, q.2, rfl⟩
abbrev s_is_order : Stmt := topS 1
theorem sc_is_order : FnScope ["plan", "order", "due", "thing", "k"] ["plan", "order"] (defScope s_is_order) := ⟨rfl, rfl, rfl, by decide +kernel, rfl, by decide +kernel, by decide +kernel⟩
theorem ok_is_order (T : Txt K mg) : FnOk P w K mg base CX0 1 T.f_is_order T.d_is_order ["plan", "order"] (spZ K (pure2 (fun (plan : Plan) (order : List PyData) => PlanOk plan ∧ OrdOk order) m_is_order)) := by
  refine fn_z T.D_is_order.fn sc_is_order (by rintro _ _ _ ⟨plan, order, rfl, hp, rfl, rfl⟩; rfl) (by rintro _ _ _ ⟨plan, order, rfl, hp, rfl, rfl⟩; exact ⟨rfl, rfl⟩) (fun A B ss r ss' hr h => ?_)
  obtain ⟨plan, order, rfl, ⟨⟨p0, p1, p2, p3⟩, o1, o2⟩, rfl, rfl⟩ := h
  refine zs_ctx ⟨[_, _], [], [_, _, _, _, _]⟩ rfl ?_
  refine zs_setL 2 (ze_catL (ze_comp (zc_map1 [("k", 4)] (zit_rng1 (za_cons (ze_len (za_cons (ze_t3a (ze_var 0)) za_nil) T.z_len) za_nil) T.z_range ?_ ?_) _ _ (fun x1 hxx1 => ⟨(zg_name' 4 (hn := sc_is_order.nd)), (ze_pair ze_str (ze_var 4))⟩) ?_) sc_is_order.nd)
    (ze_comp (zc_map1 [("k", 4)] (zit_rng1 (za_cons (ze_len (za_cons (ze_t3b (ze_var 0)) za_nil) T.z_len) za_nil) T.z_range ?_ ?_) _ _ (fun x2 hxx2 => ⟨(zg_name' 4 (hn := sc_is_order.nd)), (ze_pair ze_str (ze_var 4))⟩) ?_) sc_is_order.nd) ?_) ?_ (hn := sc_is_order.nd)
  · omega
  · omega
  · rw [rgI_len]; omega
  · omega
  · omega
  · rw [rgI_len]; omega
  · simp only [List.length_map, rgI_len]; omega
  refine zs_ctx ⟨[_, _], [.ls ((due0 plan).map Sh.of)], [_, _, .loc 0, _, _]⟩ rfl ?_
  refine zs_if (zt_neI (ze_len (za_cons (ze_var 1) za_nil) T.z_len) (ze_lenT (za_cons (ze_varL 2) za_nil) T.z_len)) (fun h => ?_) (fun h => ?_)
  · refine zs_ret ze_bl ⟨?_, rfl⟩
    have h' : order.length ≠ (due0 plan).length := by
      simp only [Bool.not_eq_true', decide_eq_false_iff_not] at h
      omega
    rw [m_is_order, if_pos h']
  have h' : ¬ order.length ≠ (due0 plan).length := by
    simp only [Bool.not_eq_false', decide_eq_true_eq] at h
    omega
  refine zs_nil ?_
  refine zs_ctx ⟨[_, _], [.ls (((due0 plan).map enc).map Sh.dat)], [_, _, .loc 0, _, _]⟩ (by rw [mapDat]) ?_
  refine zs_rec (zit_list (ze_var 1)) (fun b C => ⟨C.P, C.L.set 0 (.ls (b.map Sh.dat)), C.G.set 3 .any⟩) (fun b post => m_is_order plan order = ordGo b post ∧ twos b) ((due0 plan).map enc) ⟨by rw [m_is_order, if_neg h'], due_twos⟩ ⟨rfl, rfl, (by repeat (first | exact LeG.nil | refine LeG.keep ?_ | refine LeG.drop ?_))⟩ (fun _ => rfl)
    (fun b x post hm hP => ⟨_, (zg_name 3 (hn := sc_is_order.nd)), ?_⟩) (fun b hP => ?_)
  · obtain ⟨hP, ht⟩ := hP
    have hdb : PyData.depthAll b ≤ 60 := Nat.le_trans (twos_depth ht) (by decide)
    refine zs_ctx ⟨[_, _], [.ls (b.map Sh.dat)], [_, _, .loc 0, .dat x, _]⟩ rfl ?_
    refine zs_if (t := (!isT x || (!hit b x || isB (sec x)))) (zw_pt (zw_or (zt_not (zt_val (ze_isi (ze_var 3) T.z_isinstance T.z_tuple (by decide +kernel) (kit_T x)))) (fun h1 => zw_or (zt_niL hr.units (ze_var 3) (ze_varL 2) rfl hdb) (fun h2 => zw_or1 ?_)))) (fun h => ?_) (fun h => ?_)
    · obtain ⟨es, rfl⟩ := isT_eq (by simpa using h1)
      obtain ⟨d0, d1, rfl⟩ := hit_two ht (by simpa using h2)
      exact zt_val (ze_isi (ze_ixT (ze_var 3) ze_int rfl) T.z_isinstance T.z_bool (by decide +kernel) (kit_B d1))
    · refine zs_ret ze_bl ⟨?_, rfl⟩
      rw [hP, ordGo, if_pos h]
    · have hh : hit b x = true := by
        cases q : hit b x with
        | true => rfl
        | false => rw [q] at h; simp at h
      obtain ⟨hn, q1, q2⟩ := hit_at hh
      refine zs_nil ?_
      refine zs_expr (ze_remP hr.units (ze_varL 2) (za_cons (ze_var 3) za_nil) _ hn q1 q2 hdb) ?_
      refine zs_nil ⟨cut1 b x, ⟨by rw [hP, ordGo, if_neg (by rw [h]; exact nofun)], fun z m => ht z (cut1_sub m)⟩, (fits_of (by repeat (first | exact .nil | refine .lst ?_ | refine .dts ?_ | refine .oth rfl ?_)) (by repeat (first | exact .nil | refine .lst ?_ | refine .dts ?_ | refine .oth rfl ?_))), rfl, rfl, (by repeat (first | exact LeG.nil | refine LeG.keep ?_ | refine LeG.drop ?_))⟩
  · refine zs_ret ze_bl ⟨?_, rfl⟩
    rw [hP.1]; rfl
end
end P67
namespace P67
open PySem L2 Z
open Enc (enc)
section
variable {P : Program} {w : World} {K : PySem.W.Frag} {mg : Str → Option Value} {base : Heap}
/-! ### the law's own reading -/
def names2 : List PyData := [.str "size", .str "shim"]
def bad1 (x : PyData) : Bool := match x with
  | .tuple [d0, _] => !names2.any fun z => peq z d0
  | _ => true
def bad2 (seen : List PyData) (x : PyData) : Bool := isB (sec x) || (!isI (sec x) || hit seen x)
def secI : PyData → Int
  | .int i => i
  | _ => 0
def manyOf (n1 n2 : Int) (d : PyData) : Int := if peq (.str "size") d = true then n1 else n2
def bad3 (n1 n2 : Int) (x : PyData) : Bool := decide (secI (sec x) < 0) || decide (manyOf n1 n2 (fst' x) ≤ secI (sec x))
def dueGo (n1 n2 : Int) : List PyData → List PyData → Bool
  | seen, [] => decide ((seen.length : Int) = n1 + n2)
  | seen, x :: xs => if bad1 x = true then false else if bad2 seen x = true then false else if bad3 n1 n2 x = true then false else dueGo n1 n2 (seen ++ [x]) xs
def m_law_due (plan : Plan) (order : List PyData) : Bool := dueGo plan.a.length plan.b.length [] order
theorem names2_hit {d : PyData} (h : (names2.any fun z => peq z d) = true) : d = .str "size" ∨ d = .str "shim" := by
  have h : (peq (.str "size") d || (peq (.str "shim") d || false)) = true := h
  cases d with
  | str s =>
    have e1 : peq (.str "size") (.str s) = (("size" : Str) == s) := rfl
    have e2 : peq (.str "shim") (.str s) = (("shim" : Str) == s) := rfl
    rw [e1, e2, Bool.or_false, Bool.or_eq_true, beq_iff_eq, beq_iff_eq] at h
    rcases h with h | h
    · left; rw [h]
    · right; rw [h]
  | none => cases h
  | bool _ => cases h
  | int _ => cases h
  | list _ => cases h
  | tuple _ => cases h
  | dict _ => cases h
theorem bad1_no {x : PyData} (h : bad1 x = false) : ∃ d0 d1, x = .tuple [d0, d1] ∧ (d0 = .str "size" ∨ d0 = .str "shim") := by
  match x, h with
  | .tuple [d0, d1], h => exact ⟨d0, d1, rfl, names2_hit (by simpa [bad1] using h)⟩
  | .tuple [], h => cases h
  | .tuple [_], h => cases h
  | .tuple (_ :: _ :: _ :: _), h => cases h
  | .none, h => cases h
  | .bool _, h => cases h
  | .int _, h => cases h
  | .str _, h => cases h
  | .list _, h => cases h
  | .dict _, h => cases h
abbrev s_law_due : Stmt := topS 14
theorem sc_law_due : FnScope ["plan", "order", "many", "seen", "thing"] ["plan", "order"] (defScope s_law_due) := ⟨rfl, rfl, rfl, by decide +kernel, rfl, by decide +kernel, by decide +kernel⟩
def seenOk (seen : List PyData) : Prop := PyData.depthAll seen ≤ 10
theorem depthAll_app : ∀ (xs ys : List PyData), PyData.depthAll (xs ++ ys) = max (PyData.depthAll xs) (PyData.depthAll ys)
  | [], ys => by simp [PyData.depthAll]
  | x :: xs, ys => by
    have := depthAll_app xs ys
    simp only [List.cons_append, PyData.depthAll, this]
    omega
theorem ok_law_due (T : Txt K mg) : FnOk P w K mg base CX0 1 T.f_law_due T.d_law_due ["plan", "order"] (spZ K (pure2 (fun (plan : Plan) (order : List PyData) => PlanOk plan ∧ OrdOk order) m_law_due)) := by
  refine fn_z T.D_law_due.fn sc_law_due (by rintro _ _ _ ⟨plan, order, rfl, hp, rfl, rfl⟩; rfl) (by rintro _ _ _ ⟨plan, order, rfl, hp, rfl, rfl⟩; exact ⟨rfl, rfl⟩) (fun A B ss r ss' hr h => ?_)
  obtain ⟨plan, order, rfl, ⟨⟨p0, p1, p2, p3⟩, o1, o2⟩, rfl, rfl⟩ := h
  refine zs_ctx ⟨[_, _], [], [_, _, _, _, _]⟩ rfl ?_
  refine zs_setL 2 (ze_disp (zp_str (ze_len (za_cons (ze_t3a (ze_var 0)) za_nil) T.z_len) (zp_str (ze_len (za_cons (ze_t3b (ze_var 0)) za_nil) T.z_len) zp_nil))) ?_ (hn := sc_law_due.nd)
  refine zs_ctx ⟨[_, _], [_], [_, _, .loc 0, _, _]⟩ rfl ?_
  refine zs_setL 3 (ze_nilT (α := PyData)) ?_ (hn := sc_law_due.nd)
  refine zs_ctx ⟨[_, _], [_, .ls (([] : List PyData).map Sh.dat)], [_, _, .loc 0, .loc 1, _]⟩ rfl ?_
  refine zs_rec (zit_list (ze_var 1)) (fun b C => ⟨C.P, C.L.set 1 (.ls (b.map Sh.dat)), C.G.set 4 .any⟩) (fun b post => m_law_due plan order = dueGo plan.a.length plan.b.length b post ∧ b.length + post.length ≤ 20 ∧ seenOk b ∧ PyData.depthAll post ≤ 10) [] ⟨rfl, by simpa using o1, Nat.zero_le _, o2⟩ ⟨rfl, rfl, (by repeat (first | exact LeG.nil | refine LeG.keep ?_ | refine LeG.drop ?_))⟩ (fun _ => rfl)
    (fun b x post hm hP => ⟨_, (zg_name 4 (hn := sc_law_due.nd)), ?_⟩) (fun b hP => ?_)
  · obtain ⟨hP, hl, hs, hd⟩ := hP
    have hl : b.length + post.length + 1 ≤ 20 := by simpa [Nat.add_assoc] using hl
    have hs60 : PyData.depthAll b ≤ 60 := Nat.le_trans hs (by decide)
    refine zs_ctx ⟨[_, _], [_, .ls (b.map Sh.dat)], [_, _, .loc 0, .loc 1, .dat x]⟩ rfl ?_
    refine zs_if0 (t := bad1 x) ?_ (fun h => ?_) (fun h => ?_)
    · cases hx : isT x with
      | false =>
        have e : bad1 x = (!isT x || true) := by
          rw [hx]
          cases x <;> first | rfl | cases hx
        rw [e]
        exact zw_pt (zw_or (zt_not (zt_val (ze_isi (ze_var 4) T.z_isinstance T.z_tuple (by decide +kernel) (kit_T x)))) (fun h => by rw [hx] at h; cases h))
      | true =>
        obtain ⟨es, rfl⟩ := isT_eq hx
        by_cases hl2 : (es.length : Int) = 2
        · match es, hl2 with
          | [d0, d1], _ =>
            exact zw_pt (t := (!isT (.tuple [d0, d1]) || (!decide ((([d0, d1] : List PyData).length : Int) = 2) || (!names2.any fun z => peq z d0)))) (zw_or (zt_not (zt_val (ze_isi (ze_var 4) T.z_isinstance T.z_tuple (by decide +kernel) (kit_T _)))) (fun _ => zw_or (zt_neI (ze_lenTup (za_cons (ze_var 4) za_nil) T.z_len) ze_int) (fun _ => zw_or1
              (zt_niP hr.units (ds := names2) (ze_ixT (ze_var 4) ze_int rfl) (ze_frz (ze_lst (za_cons ze_str (za_cons ze_str za_nil))) rfl) (by decide)))))
        · have e : bad1 (.tuple es) = (!isT (.tuple es) || (!decide ((es.length : Int) = 2) || true)) := by
            rw [decide_eq_false hl2]
            match es, hl2 with
            | [], _ => rfl
            | [_], _ => rfl
            | [_, _], q => exact absurd rfl q
            | _ :: _ :: _ :: _, _ => rfl
          rw [e]
          exact zw_pt (zw_or (zt_not (zt_val (ze_isi (ze_var 4) T.z_isinstance T.z_tuple (by decide +kernel) (kit_T _)))) (fun _ => zw_or (zt_neI (ze_lenTup (za_cons (ze_var 4) za_nil) T.z_len) ze_int) (fun h => absurd h (by rw [decide_eq_false hl2]; exact nofun))))
    · refine zs_ret ze_bl ⟨?_, rfl⟩
      rw [hP, dueGo, if_pos h]
    · obtain ⟨d0, d1, rfl, hd0⟩ := bad1_no h
      refine zs_nil ?_
      refine zs_if (t := bad2 b (.tuple [d0, d1])) (zw_pt (zw_or (zt_val (ze_isi (ze_ixT (ze_var 4) ze_int rfl) T.z_isinstance T.z_bool (by decide +kernel) (kit_B d1))) (fun _ => zw_or (zt_not (zt_val (ze_isi (ze_ixT (ze_var 4) ze_int rfl) T.z_isinstance T.z_int (by decide +kernel) (kit_I d1)))) (fun _ => zw_or1 (zt_inL hr.units (ze_var 4) (ze_varL 3) rfl hs60))))) (fun h2 => ?_) (fun h2 => ?_)
      · refine zs_ret ze_bl ⟨?_, rfl⟩
        rw [hP, dueGo, if_neg (by rw [h]; exact nofun), if_pos h2]
      · obtain ⟨i, rfl⟩ : ∃ i, d1 = .int i := by
          have h2' : (isB d1 || (!isI d1 || hit b (.tuple [d0, d1]))) = false := h2
          cases d1 with
          | int i => exact ⟨i, rfl⟩
          | bool _ => cases h2'
          | none => cases h2'
          | str _ => cases h2'
          | list _ => cases h2'
          | tuple _ => cases h2'
          | dict _ => cases h2'
        refine zs_nil ?_
        refine zs_if0 (t := bad3 plan.a.length plan.b.length (.tuple [d0, .int i])) ?_ (fun h3 => ?_) (fun h3 => ?_)
        · rcases hd0 with rfl | rfl
          · exact zw_pt (zw_or (zt_lt (i := i) (ze_ixT (ze_var 4) ze_int rfl) ze_int) (fun _ => zw_or1 (zt_ge (i := i) (j := (plan.a.length : Int)) (ze_ixT (ze_var 4) ze_int rfl) (ze_dgetL hr.units (ze_varL 2) (ze_ixT (ze_var 4) ze_int rfl) 0 rfl rfl rfl key_str))))
          · exact zw_pt (zw_or (zt_lt (i := i) (ze_ixT (ze_var 4) ze_int rfl) ze_int) (fun _ => zw_or1 (zt_ge (i := i) (j := (plan.b.length : Int)) (ze_ixT (ze_var 4) ze_int rfl) (ze_dgetL hr.units (ze_varL 2) (ze_ixT (ze_var 4) ze_int rfl) 1 rfl rfl rfl key_str))))
        · refine zs_ret ze_bl ⟨?_, rfl⟩
          rw [hP, dueGo, if_neg (by rw [h]; exact nofun), if_neg (by rw [h2]; exact nofun), if_pos h3]
        · refine zs_nil ?_
          refine zs_expr (ze_appT (α := PyData) (xs := b) (y := .tuple [d0, .int i]) (ze_varL 3) (ze_var 4) (hl := by omega)) ?_
          have hx10 : PyData.depth (.tuple [d0, .int i]) ≤ 10 := by
            have : PyData.depthAll (.tuple [d0, .int i] :: post) ≤ 10 := hd
            simp only [PyData.depthAll] at this
            omega
          refine zs_nil ⟨b ++ [.tuple [d0, .int i]], ⟨by rw [hP, dueGo, if_neg (by rw [h]; exact nofun), if_neg (by rw [h2]; exact nofun), if_neg (by rw [h3]; exact nofun)], by simp; omega, by
            unfold seenOk at hs ⊢
            rw [depthAll_app]
            simp only [PyData.depthAll]
            omega, by
            have : PyData.depthAll (.tuple [d0, .int i] :: post) ≤ 10 := hd
            simp only [PyData.depthAll] at this
            omega⟩, (fits_of (by repeat (first | exact .nil | refine .lst ?_ | refine .dts ?_ | refine .oth rfl ?_)) (by repeat (first | exact .nil | refine .lst ?_ | refine .dts ?_ | refine .oth rfl ?_))), rfl, rfl, (by repeat (first | exact LeG.nil | refine LeG.keep ?_ | refine LeG.drop ?_))⟩
  · refine zs_ret (ze_eqI (ze_lenT (α := PyData) (xs := b) (za_cons (ze_varL 3) za_nil) T.z_len) (ze_add (i := (plan.a.length : Int)) (j := (plan.b.length : Int)) (ze_dgetL hr.units (ze_varL 2) ze_str 0 rfl rfl rfl key_str) (ze_dgetL hr.units (ze_varL 2) ze_str 1 rfl rfl rfl key_str))) ⟨?_, rfl⟩
    rw [hP.1]; rfl
end
end P67
namespace P67
open PySem L2 Z
open Enc (enc)
section
variable {P : Program} {w : World} {K : PySem.W.Frag} {mg : Str → Option Value} {base : Heap}
/-! ### the two readings agree -/
def goodGo (n1 n2 : Int) : List PyData → List PyData → Bool
  | _, [] => true
  | seen, x :: xs => if bad1 x = true then false else if bad2 seen x = true then false else if bad3 n1 n2 x = true then false else goodGo n1 n2 (seen ++ [x]) xs
theorem dueGo_eq (n1 n2 : Int) : ∀ (xs seen : List PyData), dueGo n1 n2 seen xs = (goodGo n1 n2 seen xs && decide ((seen.length : Int) + xs.length = n1 + n2))
  | [], seen => by simp [dueGo, goodGo]
  | x :: xs, seen => by
    rw [dueGo, goodGo, dueGo_eq n1 n2 xs]
    by_cases h1 : bad1 x = true
    · rw [if_pos h1, if_pos h1]; rfl
    rw [if_neg h1, if_neg h1]
    by_cases h2 : bad2 seen x = true
    · rw [if_pos h2, if_pos h2]; rfl
    rw [if_neg h2, if_neg h2]
    by_cases h3 : bad3 n1 n2 x = true
    · rw [if_pos h3, if_pos h3]; rfl
    rw [if_neg h3, if_neg h3]
    congr 2
    simp only [List.length_append, List.length_cons, List.length_nil, eq_iff_iff]
    constructor <;> intro h <;> omega
def InDue (n1 n2 : Int) (q : Str × Int) : Prop := (q.1 = "size" ∧ 0 ≤ q.2 ∧ q.2 < n1) ∨ (q.1 = "shim" ∧ 0 ≤ q.2 ∧ q.2 < n2)
theorem hit_enc {D : List (Str × Int)} {q : Str × Int} : hit (D.map enc) (enc q) = decide (q ∈ D) := by
  have h := any_in (us := D) (u := q)
  unfold hit
  rw [h]
  congr
theorem erase_idx (q : Str × Int) : ∀ D : List (Str × Int), D.erase q = D.eraseIdx (D.idxOf q)
  | [] => rfl
  | a :: D => by
    by_cases h : a = q
    · subst h
      rw [List.erase_cons_head, List.idxOf_cons_self]; rfl
    · rw [List.erase_cons_tail (by simpa using h), List.idxOf_cons, show (a == q) = false from by simpa using h, erase_idx q D]; rfl
theorem cut1_enc {D : List (Str × Int)} {q : Str × Int} : cut1 (D.map enc) (enc q) = (D.erase q).map enc := by
  unfold cut1
  have e1 : (D.map enc).findIdx (fun z => peq z (enc q)) = D.idxOf q := by
    rw [List.findIdx_map]
    unfold List.idxOf
    congr 1
    funext z
    show peq (enc z) (enc q) = (z == q)
    rw [DEq.eqv]
    by_cases h : z = q <;> simp [h]
  rw [e1, erase_idx, List.eraseIdx_eq_take_drop_succ, List.eraseIdx_eq_take_drop_succ, List.map_append, List.map_take, List.map_drop]
theorem manyOf_size (n1 n2 : Int) : manyOf n1 n2 (.str "size") = n1 := rfl
theorem manyOf_shim (n1 n2 : Int) : manyOf n1 n2 (.str "shim") = n2 := rfl
theorem bad3_no {n1 n2 : Int} {s : Str} {i : Int} (hs : s = "size" ∨ s = "shim") : bad3 n1 n2 (.tuple [.str s, .int i]) = false ↔ InDue n1 n2 (s, i) := by
  have e : bad3 n1 n2 (.tuple [.str s, .int i]) = (decide (i < 0) || decide (manyOf n1 n2 (.str s) ≤ i)) := rfl
  rw [e, Bool.or_eq_false_iff, decide_eq_false_iff_not, decide_eq_false_iff_not]
  unfold InDue
  rcases hs with rfl | rfl
  · rw [manyOf_size]
    constructor
    · rintro ⟨h1, h2⟩; exact .inl ⟨rfl, by omega, by omega⟩
    · rintro (⟨_, h1, h2⟩ | ⟨h, _, _⟩)
      · exact ⟨by omega, by omega⟩
      · exact absurd (show ("size" : Str) = "shim" from h) (by decide)
  · rw [manyOf_shim]
    constructor
    · rintro ⟨h1, h2⟩; exact .inr ⟨rfl, by omega, by omega⟩
    · rintro (⟨h, _, _⟩ | ⟨_, h1, h2⟩)
      · exact absurd (show ("shim" : Str) = "size" from h) (by decide)
      · exact ⟨by omega, by omega⟩
theorem good_false {n1 n2 : Int} {seen xs : List PyData} {x : PyData} (h : ∀ s i, x = .tuple [.str s, .int i] → (s = "size" ∨ s = "shim") → InDue n1 n2 (s, i) → hit seen x = true) : goodGo n1 n2 seen (x :: xs) = false := by
  rw [goodGo]
  by_cases h1 : bad1 x = true
  · rw [if_pos h1]
  rw [if_neg h1]
  obtain ⟨d0, d1, rfl, hd⟩ := bad1_no (by simpa using h1)
  by_cases h2 : bad2 seen (.tuple [d0, d1]) = true
  · rw [if_pos h2]
  rw [if_neg h2]
  have h2' : (isB d1 || (!isI d1 || hit seen (.tuple [d0, d1]))) = false := (Bool.not_eq_true _).mp h2
  obtain ⟨i, rfl⟩ : ∃ i, d1 = .int i := by
    cases d1 with
    | int i => exact ⟨i, rfl⟩
    | bool _ => cases h2'
    | none => cases h2'
    | str _ => cases h2'
    | list _ => cases h2'
    | tuple _ => cases h2'
    | dict _ => cases h2'
  have h2'' : hit seen (.tuple [d0, .int i]) = false := h2'
  by_cases h3 : bad3 n1 n2 (.tuple [d0, .int i]) = true
  · rw [if_pos h3]
  exfalso
  have h3' : bad3 n1 n2 (.tuple [d0, .int i]) = false := by simpa using h3
  rcases hd with rfl | rfl
  · have := h "size" i rfl (.inl rfl) ((bad3_no (.inl rfl)).mp h3')
    rw [h2''] at this; cases this
  · have := h "shim" i rfl (.inr rfl) ((bad3_no (.inr rfl)).mp h3')
    rw [h2''] at this; cases this
theorem peq_str {s : Str} {d : PyData} (h : peq (.str s) d = true) : d = .str s := by
  cases d with
  | str t =>
    have e : peq (.str s) (.str t) = (s == t) := rfl
    rw [e, beq_iff_eq] at h
    rw [h]
  | none => cases h
  | bool _ => cases h
  | int _ => cases h
  | list _ => cases h
  | tuple _ => cases h
  | dict _ => cases h
theorem peq_int {i : Int} {d : PyData} (h : peq (.int i) d = true) : d = .int i ∨ isB d = true := by
  cases d with
  | int t =>
    have e : peq (.int i) (.int t) = (i == t) := rfl
    rw [e, beq_iff_eq] at h
    left; rw [h]
  | bool _ => right; rfl
  | none => cases h
  | str _ => cases h
  | list _ => cases h
  | tuple _ => cases h
  | dict _ => cases h
theorem indue_name {n1 n2 : Int} {q : Str × Int} (h : InDue n1 n2 q) : q.1 = "size" ∨ q.1 = "shim" := h.elim (fun h => .inl h.1) fun h => .inr h.1
theorem ord_good (n1 n2 : Int) : ∀ (xs : List PyData) (D Sn : List (Str × Int)), D.Nodup → (∀ q, q ∈ D ↔ (InDue n1 n2 q ∧ q ∉ Sn)) → ordGo (D.map enc) xs = goodGo n1 n2 (Sn.map enc) xs
  | [], _, _, _, _ => rfl
  | x :: xs, D, Sn, hn, hD => by
    rw [ordGo]
    by_cases hx : isT x = true
    case neg =>
      rw [if_pos (by simp [hx])]
      refine (good_false fun s i e => ?_).symm
      subst e
      exact absurd rfl hx
    obtain ⟨es, rfl⟩ := isT_eq hx
    by_cases hh : hit (D.map enc) (.tuple es) = true
    case neg =>
      rw [if_pos (by simp [hh])]
      refine (good_false fun s i e hs hd => ?_).symm
      rw [e] at hh ⊢
      have e1 : hit (D.map enc) (.tuple [.str s, .int i]) = decide ((s, i) ∈ D) := hit_enc (q := (s, i))
      have e2 : hit (Sn.map enc) (.tuple [.str s, .int i]) = decide ((s, i) ∈ Sn) := hit_enc (q := (s, i))
      rw [e1, decide_eq_true_eq, hD] at hh
      rw [e2, decide_eq_true_eq]
      exact Classical.byContradiction fun z => hh ⟨hd, z⟩
    obtain ⟨z, m, e⟩ := List.any_eq_true.mp hh
    obtain ⟨q, mq, rfl⟩ := List.mem_map.mp m
    obtain ⟨d0, d1, rfl, e0, e1⟩ := peq_two (s := q.1) (i := q.2) e
    obtain rfl := peq_str e0
    rcases peq_int e1 with rfl | hb
    · have q1 := (hD q).mp mq
      have hs := indue_name q1.1
      have c0 : (!isT (.tuple [.str q.1, .int q.2]) || (!hit (D.map enc) (.tuple [.str q.1, .int q.2]) || isB (sec (.tuple [.str q.1, .int q.2])))) = false := by
        rw [hh]; rfl
      rw [if_neg (by rw [c0]; exact nofun)]
      have c1 : bad1 (.tuple [.str q.1, .int q.2]) = false := by
        rcases hs with h | h <;> rw [h] <;> rfl
      have c2 : bad2 (Sn.map enc) (.tuple [.str q.1, .int q.2]) = false := by
        have e2 : hit (Sn.map enc) (.tuple [.str q.1, .int q.2]) = decide (q ∈ Sn) := hit_enc (q := q)
        have : bad2 (Sn.map enc) (.tuple [.str q.1, .int q.2]) = hit (Sn.map enc) (.tuple [.str q.1, .int q.2]) := rfl
        rw [this, e2, decide_eq_false_iff_not]
        exact q1.2
      have c3 := (bad3_no (i := q.2) hs).mpr q1.1
      rw [goodGo, if_neg (by rw [c1]; exact nofun), if_neg (by rw [c2]; exact nofun), if_neg (by rw [c3]; exact nofun)]
      have e3 : cut1 (D.map enc) (.tuple [.str q.1, .int q.2]) = (D.erase q).map enc := cut1_enc (q := q)
      have e4 : Sn.map enc ++ [PyData.tuple [.str q.1, .int q.2]] = (Sn ++ [q]).map enc := by rw [List.map_append]; rfl
      rw [e3, e4]
      refine ord_good n1 n2 xs (D.erase q) (Sn ++ [q]) (hn.erase q) fun r => ?_
      rw [hn.mem_erase_iff, hD]
      simp only [List.mem_append, List.mem_singleton]
      constructor
      · rintro ⟨h1, h2, h3⟩; exact ⟨h2, fun z => z.elim h3 h1⟩
      · rintro ⟨h1, h2⟩; exact ⟨fun z => h2 (.inr z), h1, fun z => h2 (.inl z)⟩
    · have c0 : (!isT (.tuple [.str q.1, d1]) || (!hit (D.map enc) (.tuple [.str q.1, d1]) || isB (sec (.tuple [.str q.1, d1])))) = true := by
        have : isB (sec (.tuple [.str q.1, d1])) = true := hb
        rw [this, Bool.or_true, Bool.or_true]
      rw [if_pos c0]
      refine (good_false fun s i e => ?_).symm
      injection e with e
      injection e with _ e
      injection e with e _
      subst e
      cases hb
theorem due_mem {plan : Plan} (q : Str × Int) : q ∈ due0 plan ↔ InDue plan.a.length plan.b.length q := by
  obtain ⟨s, i⟩ := q
  unfold due0 InDue
  simp only [List.mem_append, List.mem_map, mem_rgI, Prod.mk.injEq]
  constructor
  · rintro (⟨k, hk, rfl, rfl⟩ | ⟨k, hk, rfl, rfl⟩)
    · exact .inl ⟨rfl, hk.1, by omega⟩
    · exact .inr ⟨rfl, hk.1, by omega⟩
  · rintro (⟨rfl, h1, h2⟩ | ⟨rfl, h1, h2⟩)
    · exact .inl ⟨i, ⟨h1, by omega⟩, rfl, rfl⟩
    · exact .inr ⟨i, ⟨h1, by omega⟩, rfl, rfl⟩
theorem rgI_nodup (n : Nat) : (rgI n).Nodup := by
  unfold rgI
  refine List.Pairwise.map _ ?_ (List.nodup_range (n := n))
  intro a b h e
  exact h (Int.ofNat.inj e)
theorem due_nodup {plan : Plan} : (due0 plan).Nodup := by
  unfold due0
  rw [List.nodup_append]
  refine ⟨List.Pairwise.map _ ?_ (rgI_nodup _), List.Pairwise.map _ ?_ (rgI_nodup _), fun a m b m' e => ?_⟩
  · intro a b h e; exact h (Prod.mk.inj e).2
  · intro a b h e; exact h (Prod.mk.inj e).2
  · subst e
    obtain ⟨k, _, rfl⟩ := List.mem_map.mp m
    obtain ⟨l, _, e⟩ := List.mem_map.mp m'
    exact absurd (Prod.mk.inj e).1 (by decide)
theorem readings (plan : Plan) (order : List PyData) : m_is_order plan order = m_law_due plan order := by
  have h := ord_good plan.a.length plan.b.length order (due0 plan) [] due_nodup fun q => by rw [due_mem]; simp
  unfold m_is_order m_law_due
  rw [dueGo_eq, h]
  have hl := due_len (plan := plan)
  by_cases e : order.length = (due0 plan).length
  · rw [if_neg (by simpa using e), decide_eq_true (by simp; omega), Bool.and_true]; rfl
  · rw [if_pos e, decide_eq_false (by simp; omega), Bool.and_false]
end
end P67
namespace P67
open PySem L2 Z
open Enc (enc)
section
variable {P : Program} {w : World} {K : PySem.W.Frag} {mg : Str → Option Value} {base : Heap}
/-! ### the law -/
theorem copy_eq (plan : Plan) : m_law_copy plan = plan := by
  obtain ⟨a, b, c⟩ := plan
  unfold m_law_copy
  simp
theorem plan_ok (script : List Int) : PlanOk (m_law_plan script) := by
  unfold m_law_plan PlanOk
  simp only [List.length_map, rgI_len]
  refine ⟨by omega, by omega, by omega, ?_⟩
  refine Nat.le_trans (foldl_le (fun (s : List (T3 (List (Int × Int)) (List (Int × Int)) (Int × Int))) => s.length) (fun s x => by simp) _ _) ?_
  rw [rgI_len]
  have := plan_many (c := m_law_cell_at script 0 / 9) (n := ((m_law_cell_at script 0 / 3 % 3).toNat : Int)) (by omega) (by omega)
  simpa using this
theorem foldl_eq {σ α : Type} {g : σ → α → σ} (m : σ → Nat) (h : ∀ s x, m (g s x) = m s + 1) : ∀ (xs : List α) (b : σ), m (xs.foldl g b) = m b + xs.length
  | [], b => rfl
  | x :: xs, b => by
    have h1 := foldl_eq m h xs (g b x)
    have h2 := h b x
    rw [List.foldl_cons, List.length_cons, h1]
    omega
theorem order_len (plan : Plan) (cell : Int) : (m_law_order plan cell).length = plan.a.length + plan.b.length := by
  unfold m_law_order
  have := foldl_eq (g := fun (s3 : (List (Str × Int)) × Int) (y3 : Str × Int) => ((List.take (s3.2 % ((s3.1.length : Int) + 1)).toNat s3.1 ++ [y3] ++ List.drop (s3.2 % ((s3.1.length : Int) + 1)).toNat s3.1), s3.2 / 7)) (fun s => s.1.length) (fun s x => by simp; omega) (due0 plan) ([], cell)
  rw [due_len] at this
  simpa [due0] using this
theorem mem_depth : ∀ {xs : List PyData}, (∀ d ∈ xs, d.depth ≤ 10) → PyData.depthAll xs ≤ 10
  | [], _ => Nat.zero_le _
  | x :: xs, h => by
    have h1 := h x (List.mem_cons_self ..)
    have h2 := mem_depth (xs := xs) fun d m => h d (List.mem_cons_of_mem _ m)
    simp only [PyData.depthAll]
    omega
theorem enc_depth (q : Str × Int) : (enc q : PyData).depth ≤ 10 := by
  show PyData.depth (.tuple [.str q.1, .int q.2]) ≤ 10
  simp [PyData.depth, PyData.depthAll]
theorem map_depth {order : List (Str × Int)} : ∀ d ∈ (order.map enc : List PyData), d.depth ≤ 10 := fun d m => by
  obtain ⟨q, _, rfl⟩ := List.mem_map.mp m
  exact enc_depth q
theorem things_depth (kind : Str) (k n many cell : Int) : ∀ d ∈ things kind k n many cell, d.depth ≤ 10 := by
  have h : (things kind k n many cell).all (fun d => decide (d.depth ≤ 10)) = true := rfl
  intro d m
  simpa using List.all_eq_true.mp h d m
theorem ix_depth {xs : List PyData} {i : Int} (h : ∀ d ∈ xs, d.depth ≤ 10) : (ixD xs i).depth ≤ 10 := by
  unfold ixD atI
  cases e : ixN xs.length i with
  | none => exact Nat.zero_le _
  | some n =>
    show ((xs[n]?).getD default).depth ≤ 10
    cases e2 : xs[n]? with
    | none => exact Nat.zero_le _
    | some d => exact h d (List.mem_of_getElem? e2)
theorem cutP_mem {α : Type} {xs : List α} {l h : Option Int} {d : α} (m : d ∈ cutP xs l h) : d ∈ xs := List.mem_of_mem_drop (List.mem_of_mem_take m)
theorem cutP_len {α : Type} (xs : List α) (l h : Option Int) : (cutP xs l h).length ≤ xs.length := by
  unfold cutP
  rw [List.length_take, List.length_drop]
  omega
theorem spoiltAt_depth {order : List (Str × Int)} {x : PyData} {spot : Int} (hx : x.depth ≤ 10) : ∀ d ∈ spoiltAt order x spot, d.depth ≤ 10 := fun d m => by
  unfold spoiltAt at m
  rcases List.mem_append.mp m with m | m
  · rcases List.mem_append.mp m with m | m
    · exact map_depth d (cutP_mem m)
    · rw [List.mem_singleton.mp m]; exact hx
  · exact map_depth d (cutP_mem m)
theorem spoiltAt_max {order : List (Str × Int)} {x : PyData} {spot : Int} (h : order.length ≤ 5) : (spoiltAt order x spot).length ≤ 11 := by
  unfold spoiltAt
  have h1 := cutP_len (order.map enc : List PyData) none (some spot)
  have h2 := cutP_len (order.map enc : List PyData) (some (spot + 1)) none
  rw [List.length_map] at h1 h2
  simp only [List.length_append, List.length_singleton]
  omega
theorem spoilt_ok {order : List (Str × Int)} {many cell : Int} (h : order.length ≤ 5) : OrdOk (m_spoilt order many cell) := by
  unfold m_spoilt
  have hx := ix_depth (i := cell % 26) (things_depth (ixD order (cell / 12 % order.length)).1 (ixD order (cell / 12 % order.length)).2 order.length many cell)
  have hm := spoiltAt_max (x := ixD (things (ixD order (cell / 12 % order.length)).1 (ixD order (cell / 12 % order.length)).2 order.length many cell) (cell % 26)) (spot := cell / 12 % order.length) h
  have hd := spoiltAt_depth (order := order) (spot := cell / 12 % order.length) hx
  dsimp only
  split
  · refine ⟨Nat.le_trans (List.length_eraseIdx_le ..) (by omega), mem_depth fun d m => hd d (List.mem_of_mem_eraseIdx m)⟩
  split
  · refine ⟨by rw [List.length_append, List.length_singleton]; omega, mem_depth fun d m => ?_⟩
    rcases List.mem_append.mp m with m | m
    · exact hd d m
    · rw [List.mem_singleton.mp m]; exact enc_depth _
  split
  · refine ⟨by rw [List.length_set, List.length_set, List.length_map]; omega, mem_depth fun d m => ?_⟩
    rcases List.mem_or_eq_of_mem_set m with m | rfl
    · rcases List.mem_or_eq_of_mem_set m with m | rfl
      · exact map_depth d m
      · exact enc_depth _
    · exact enc_depth _
  · exact ⟨by omega, mem_depth hd⟩
theorem order_ok {order : List (Str × Int)} (h : order.length ≤ 5) : OrdOk (order.map enc) := ⟨by rw [List.length_map]; omega, mem_depth map_depth⟩
abbrev s_law : Stmt := topS 15
theorem sc_law : FnScope ["script", "plan", "order", "handed", "found"] ["script"] (defScope s_law) := ⟨rfl, rfl, rfl, by decide +kernel, rfl, by decide +kernel, by decide +kernel⟩
theorem never {plan : Plan} (h : PlanOk plan) : m_is_order plan [] = false := by
  unfold m_is_order
  rw [if_pos]
  rw [due_len]
  have := h.1
  simp only [List.length_nil]
  omega
theorem handed_depth (plan : Plan) {o : List PyData} (ho : OrdOk o) : (enc (plan, o) : PyData).depth ≤ 60 := by
  have h1 : (enc plan : PyData).depth ≤ 40 := Nat.le_trans (DEq.dep (α := T3 (List ((Int × Int) × (Int × Int))) (List ((Int × Int) × (Int × Int))) (List (T3 (List (Int × Int)) (List (Int × Int)) (Int × Int)))) plan) (by decide)
  show PyData.depth (.tuple [enc plan, .list (o.map id)]) ≤ 60
  rw [List.map_id]
  have := ho.2
  simp only [PyData.depth, PyData.depthAll]
  omega
theorem ok_law (T : Txt K mg) : FnOk P w K mg base CX0 5 T.f_law T.d_law ["script"] (spZ K (pure1 (fun (script : List Int) => True) (fun _ => true))) := by
  refine fn_z T.D_law.fn sc_law (by rintro _ _ _ ⟨script, rfl, hp, rfl, rfl⟩; rfl) (by rintro _ _ _ ⟨script, rfl, hp, rfl, rfl⟩; exact ⟨rfl, rfl⟩) (fun A B ss r ss' hr h => ?_)
  obtain ⟨script, rfl, hp, rfl, rfl⟩ := h
  refine zs_ctx ⟨[_], [], [_, _, _, _, _]⟩ rfl ?_
  refine zs_set 1 (ze_call (ok_law_plan T) (hr.mono (by decide)) T.D_law_plan.g T.D_law_plan.fn.kp T.D_law_plan.b (za_cons (ze_var 0) za_nil) ⟨[_], rfl⟩ ⟨_, rfl, trivial, rfl, rfl⟩) ?_ (hn := sc_law.nd)
  have pok := plan_ok script
  generalize m_law_plan script = plan at pok
  refine zs_set 2 (ze_call (ok_law_order T) (hr.mono (by decide)) T.D_law_order.g T.D_law_order.fn.kp T.D_law_order.b (za_cons (ze_var 1) (za_cons (ze_call (ok_law_cell_at T) (hr.mono (by decide)) T.D_law_cell_at.g T.D_law_cell_at.fn.kp T.D_law_cell_at.b (za_cons (ze_var 0) (za_cons ze_int za_nil)) ⟨[_, _], rfl⟩ ⟨_, _, rfl, Int.natCast_nonneg _, rfl, rfl⟩) za_nil)) ⟨[_, _], rfl⟩ ⟨_, _, rfl, pok, rfl, rfl⟩) ?_ (hn := sc_law.nd)
  have ol := order_len plan (m_law_cell_at script 10)
  generalize m_law_order plan (m_law_cell_at script 10) = order at ol
  have o5 : order.length ≤ 5 := by have := pok.2.1; have := pok.2.2.1; omega
  have o0 : 0 < order.length := by have := pok.1; omega
  refine zs_ctx ⟨[_], [], [Sh.of script, Sh.of plan, Sh.of (order.map enc : List PyData), _, _]⟩ (by rw [of_py]; rfl) ?_
  refine zs_if (zt_gt (ze_mod (ze_call (ok_law_cell_at T) (hr.mono (by decide)) T.D_law_cell_at.g T.D_law_cell_at.fn.kp T.D_law_cell_at.b (za_cons (ze_var 0) (za_cons ze_int za_nil)) ⟨[_, _], rfl⟩ ⟨_, _, rfl, Int.natCast_nonneg _, rfl, rfl⟩) ze_int (by decide)) ze_int) (fun h => ?_) (fun h => ?_)
  · refine zs_set 2 (ze_call (ok_law_spoilt T) (hr.mono (by decide)) T.D_law_spoilt.g T.D_law_spoilt.fn.kp T.D_law_spoilt.b (za_cons (ze_as (ze_var 2) (of_py order)) (za_cons (ze_len (za_cons (ze_t3a (ze_var 1)) za_nil) T.z_len) (za_cons (ze_div (ze_call (ok_law_cell_at T) (hr.mono (by decide)) T.D_law_cell_at.g T.D_law_cell_at.fn.kp T.D_law_cell_at.b (za_cons (ze_var 0) (za_cons ze_int za_nil)) ⟨[_, _], rfl⟩ ⟨_, _, rfl, Int.natCast_nonneg _, rfl, rfl⟩) ze_int (div_small (by decide) (by decide))) za_nil))) ⟨[_, _, _], rfl⟩ ⟨_, _, _, rfl, ⟨o0, o5⟩, rfl, rfl⟩) ?_ (hn := sc_law.nd)
    have ho := spoilt_ok (many := plan.a.length) (cell := m_law_cell_at script 11 / 4) o5
    generalize m_spoilt order plan.a.length (m_law_cell_at script 11 / 4) = o at ho
    refine zs_nil ?_
    refine zs_ctx ⟨[_], [], [Sh.of script, Sh.of plan, Sh.of o, _, _]⟩ rfl ?_
    refine zs_set 3 (ze_pair (ze_call (ok_law_copy T) (hr.mono (by decide)) T.D_law_copy.g T.D_law_copy.fn.kp T.D_law_copy.b (za_cons (ze_var 1) za_nil) ⟨[_], rfl⟩ ⟨_, rfl, pok, rfl, rfl⟩) (ze_listofD (za_cons (ze_var 2) za_nil) T.z_list)) ?_ (hn := sc_law.nd)
    rw [copy_eq]
    refine zs_ctx ⟨[_], [], [Sh.of script, Sh.of plan, Sh.of o, Sh.of (plan, o), _]⟩ rfl ?_
    refine zs_set 4 (ze_call (ok_is_order T) (hr.mono (by decide)) T.D_is_order.g T.D_is_order.fn.kp T.D_is_order.b (za_cons (ze_fst (ze_var 3)) (za_cons (ze_snd (ze_var 3)) za_nil)) ⟨[_, _], rfl⟩ ⟨_, _, rfl, ⟨pok, ho⟩, rfl, rfl⟩) ?_ (hn := sc_law.nd)
    refine zs_ctx ⟨[_], [], [Sh.of script, Sh.of plan, Sh.of o, Sh.of (plan, o), Sh.of (m_is_order plan o)]⟩ rfl ?_
    have hd := handed_depth plan ho
    refine zs_if (zw_pt (zw_or (zt_not (zt_val (ze_isi (ze_var 4) T.z_isinstance T.z_bool (by decide +kernel) (kit_B _)))) (fun _ => zw_or (zt_neB (ze_var 4) (ze_call (ok_law_due T) (hr.mono (by decide)) T.D_law_due.g T.D_law_due.fn.kp T.D_law_due.b (za_cons (ze_var 1) (za_cons (ze_var 2) za_nil)) ⟨[_, _], rfl⟩ ⟨_, _, rfl, ⟨pok, ho⟩, rfl, rfl⟩))
      (fun _ => zw_or1 (zt_neP hr.units (ze_var 3) (ze_pair (ze_var 1) (ze_var 2)) rfl rfl (Nat.le_trans (Nat.min_le_left ..) hd)))))) (fun h => ?_) (fun h => ?_)
    · exfalso
      rw [readings, decide_eq_true rfl, peq_refl] at h
      cases h
    · refine zs_nil ?_
      refine zs_ret (ze_and (ze_eqB (ze_call (ok_is_order T) (hr.mono (by decide)) T.D_is_order.g T.D_is_order.fn.kp T.D_is_order.b (za_cons (ze_fst (ze_var 3)) (za_cons (ze_snd (ze_var 3)) za_nil)) ⟨[_, _], rfl⟩ ⟨_, _, rfl, ⟨pok, ho⟩, rfl, rfl⟩) (ze_var 4))
        (fun _ => ze_and (ze_eqP hr.units (ze_var 3) (ze_pair (ze_var 1) (ze_var 2)) rfl rfl (Nat.le_trans (Nat.min_le_left ..) hd)) (fun _ => ze_one (ze_not (ze_call (ok_is_order T) (hr.mono (by decide)) T.D_is_order.g T.D_is_order.fn.kp T.D_is_order.b (za_cons (ze_fst (ze_var 3)) (za_cons (ze_list (xs := ([] : List PyData)) za_nil) za_nil)) ⟨[_, _], rfl⟩ ⟨_, _, rfl, ⟨pok, ⟨Nat.zero_le _, Nat.zero_le _⟩⟩, rfl, rfl⟩))))) ⟨?_, rfl⟩
      rw [never pok, peq_refl, decide_eq_true rfl]
      rfl
  · have ho := order_ok o5
    generalize (order.map enc : List PyData) = o at ho
    refine zs_nil ?_
    refine zs_ctx ⟨[_], [], [Sh.of script, Sh.of plan, Sh.of o, _, _]⟩ rfl ?_
    refine zs_set 3 (ze_pair (ze_call (ok_law_copy T) (hr.mono (by decide)) T.D_law_copy.g T.D_law_copy.fn.kp T.D_law_copy.b (za_cons (ze_var 1) za_nil) ⟨[_], rfl⟩ ⟨_, rfl, pok, rfl, rfl⟩) (ze_listofD (za_cons (ze_var 2) za_nil) T.z_list)) ?_ (hn := sc_law.nd)
    rw [copy_eq]
    refine zs_ctx ⟨[_], [], [Sh.of script, Sh.of plan, Sh.of o, Sh.of (plan, o), _]⟩ rfl ?_
    refine zs_set 4 (ze_call (ok_is_order T) (hr.mono (by decide)) T.D_is_order.g T.D_is_order.fn.kp T.D_is_order.b (za_cons (ze_fst (ze_var 3)) (za_cons (ze_snd (ze_var 3)) za_nil)) ⟨[_, _], rfl⟩ ⟨_, _, rfl, ⟨pok, ho⟩, rfl, rfl⟩) ?_ (hn := sc_law.nd)
    refine zs_ctx ⟨[_], [], [Sh.of script, Sh.of plan, Sh.of o, Sh.of (plan, o), Sh.of (m_is_order plan o)]⟩ rfl ?_
    have hd := handed_depth plan ho
    refine zs_if (zw_pt (zw_or (zt_not (zt_val (ze_isi (ze_var 4) T.z_isinstance T.z_bool (by decide +kernel) (kit_B _)))) (fun _ => zw_or (zt_neB (ze_var 4) (ze_call (ok_law_due T) (hr.mono (by decide)) T.D_law_due.g T.D_law_due.fn.kp T.D_law_due.b (za_cons (ze_var 1) (za_cons (ze_var 2) za_nil)) ⟨[_, _], rfl⟩ ⟨_, _, rfl, ⟨pok, ho⟩, rfl, rfl⟩))
      (fun _ => zw_or1 (zt_neP hr.units (ze_var 3) (ze_pair (ze_var 1) (ze_var 2)) rfl rfl (Nat.le_trans (Nat.min_le_left ..) hd)))))) (fun h => ?_) (fun h => ?_)
    · exfalso
      rw [readings, decide_eq_true rfl, peq_refl] at h
      cases h
    · refine zs_nil ?_
      refine zs_ret (ze_and (ze_eqB (ze_call (ok_is_order T) (hr.mono (by decide)) T.D_is_order.g T.D_is_order.fn.kp T.D_is_order.b (za_cons (ze_fst (ze_var 3)) (za_cons (ze_snd (ze_var 3)) za_nil)) ⟨[_, _], rfl⟩ ⟨_, _, rfl, ⟨pok, ho⟩, rfl, rfl⟩) (ze_var 4))
        (fun _ => ze_and (ze_eqP hr.units (ze_var 3) (ze_pair (ze_var 1) (ze_var 2)) rfl rfl (Nat.le_trans (Nat.min_le_left ..) hd)) (fun _ => ze_one (ze_not (ze_call (ok_is_order T) (hr.mono (by decide)) T.D_is_order.g T.D_is_order.fn.kp T.D_is_order.b (za_cons (ze_fst (ze_var 3)) (za_cons (ze_list (xs := ([] : List PyData)) za_nil) za_nil)) ⟨[_, _], rfl⟩ ⟨_, _, rfl, ⟨pok, ⟨Nat.zero_le _, Nat.zero_le _⟩⟩, rfl, rfl⟩))))) ⟨?_, rfl⟩
      rw [never pok, peq_refl, decide_eq_true rfl]
      rfl
end
end P67
namespace P67
open PySem L2 Z
open Enc (enc)
section
variable {P : Program} {w : World} {K : PySem.W.Frag} {mg : Str → Option Value} {base : Heap}
def lawSp : Z.Spec := pure1 (fun (script : List Int) => True) (fun _ => true)
theorem ints_rp {F : Hp} : ∀ ns : List Int, RpL K F (ns.map V.int) (ns.map enc)
  | [] => .nil
  | n :: ns => .cons (.int n) (ints_rp ns)
theorem law_pre {H : Hp} {a : Addr} {ns : List Int} (hl : ns.length ≤ 63) (hS : SqL K H a (ns.map V.int)) : spZ K lawSp [.ref a] H (fun v _ => v = .bl true) fun _ _ _ => False :=
  ⟨H, [Sh.of ns], [], Sh.of true, [Sh.of ns], Same.refl _, .cons (as := []) (.dat (.lst hS (ints_rp ns))) .nil, List.nodup_nil, ⟨ns, rfl, trivial, rfl, rfl⟩, fun v F' H' bs cs _ _ _ _ _ _ h _ _ _ => by
    cases h with | dat h => exact rp_bl h⟩
end
theorem all_mk {l : PySem.W.OpenLaw} {w : World} {K : PySem.W.Frag} {h : Heap} {mg : Str → Option Value} {fa : Addr} (X : K.In h) (G : h.Ns mainGlobals mg) (hfa : mg "law" = some (.ref fa))
    {f1 f2 f3 f4 f5 f6 f7 f8 f9 f10 f11 f12 f13 f14 : Addr} {od1 od2 od3 od4 od5 od6 od7 od8 od9 od10 od11 od12 od13 od14 an1 an2 an3 an4 an5 an6 an7 an8 an9 an10 an11 an12 an13 an14 : Option Addr} {sl1 sl2 sl3 sl4 sl5 sl6 sl7 sl8 sl9 sl10 sl11 sl12 sl13 sl14 : Array (Option Value)} {oc1 kV1 dc1 pm1 cd1 ct1 oc2 kV2 dc2 pm2 cd2 ct2 oc3 kV3 dc3 pm3 cd3 ct3 oc4 kV4 dc4 pm4 cd4 ct4 oc5 kV5 dc5 pm5 cd5 ct5 oc6 kV6 dc6 pm6 cd6 ct6 oc7 kV7 dc7 pm7 cd7 ct7 oc8 kV8 dc8 pm8 cd8 ct8 oc9 kV9 dc9 pm9 cd9 ct9 oc10 kV10 dc10 pm10 cd10 ct10 oc11 kV11 dc11 pm11 cd11 ct11 oc12 kV12 dc12 pm12 cd12 ct12 oc13 kV13 dc13 pm13 cd13 ct13 oc14 kV14 dc14 pm14 cd14 ct14 : Value}
    (a1 : PySem.W.nsIn K mainGlobals "is_order" = some (some (.ref f1))) (l1 : K.lookup f1 = some ⟨oc1, od1, .func (PySem.W.fnOf "is_order" "is_order" (defArgs (topS 1)) (defBody (topS 1)) (defScope (topS 1)) .none kV1 dc1 pm1 an1 cd1 ct1), sl1⟩) (c1 : PySem.W.codeIn K cd1 "is_order" = true) (k1 : PySem.W.keepIn K (.ref f1) = true)
    (a2 : PySem.W.nsIn K mainGlobals "_law_cell_at" = some (some (.ref f2))) (l2 : K.lookup f2 = some ⟨oc2, od2, .func (PySem.W.fnOf "_law_cell_at" "_law_cell_at" (defArgs (topS 3)) (defBody (topS 3)) (defScope (topS 3)) .none kV2 dc2 pm2 an2 cd2 ct2), sl2⟩) (c2 : PySem.W.codeIn K cd2 "_law_cell_at" = true) (k2 : PySem.W.keepIn K (.ref f2) = true)
    (a3 : PySem.W.nsIn K mainGlobals "_law_mixed" = some (some (.ref f3))) (l3 : K.lookup f3 = some ⟨oc3, od3, .func (PySem.W.fnOf "_law_mixed" "_law_mixed" (defArgs (topS 4)) (defBody (topS 4)) (defScope (topS 4)) .none kV3 dc3 pm3 an3 cd3 ct3), sl3⟩) (c3 : PySem.W.codeIn K cd3 "_law_mixed" = true) (k3 : PySem.W.keepIn K (.ref f3) = true)
    (a4 : PySem.W.nsIn K mainGlobals "_law_fraction" = some (some (.ref f4))) (l4 : K.lookup f4 = some ⟨oc4, od4, .func (PySem.W.fnOf "_law_fraction" "_law_fraction" (defArgs (topS 5)) (defBody (topS 5)) (defScope (topS 5)) .none kV4 dc4 pm4 an4 cd4 ct4), sl4⟩) (c4 : PySem.W.codeIn K cd4 "_law_fraction" = true) (k4 : PySem.W.keepIn K (.ref f4) = true)
    (a5 : PySem.W.nsIn K mainGlobals "_law_plus" = some (some (.ref f5))) (l5 : K.lookup f5 = some ⟨oc5, od5, .func (PySem.W.fnOf "_law_plus" "_law_plus" (defArgs (topS 6)) (defBody (topS 6)) (defScope (topS 6)) .none kV5 dc5 pm5 an5 cd5 ct5), sl5⟩) (c5 : PySem.W.codeIn K cd5 "_law_plus" = true) (k5 : PySem.W.keepIn K (.ref f5) = true)
    (a6 : PySem.W.nsIn K mainGlobals "_law_times" = some (some (.ref f6))) (l6 : K.lookup f6 = some ⟨oc6, od6, .func (PySem.W.fnOf "_law_times" "_law_times" (defArgs (topS 7)) (defBody (topS 7)) (defScope (topS 7)) .none kV6 dc6 pm6 an6 cd6 ct6), sl6⟩) (c6 : PySem.W.codeIn K cd6 "_law_times" = true) (k6 : PySem.W.keepIn K (.ref f6) = true)
    (a7 : PySem.W.nsIn K mainGlobals "_law_bounds" = some (some (.ref f7))) (l7 : K.lookup f7 = some ⟨oc7, od7, .func (PySem.W.fnOf "_law_bounds" "_law_bounds" (defArgs (topS 8)) (defBody (topS 8)) (defScope (topS 8)) .none kV7 dc7 pm7 an7 cd7 ct7), sl7⟩) (c7 : PySem.W.codeIn K cd7 "_law_bounds" = true) (k7 : PySem.W.keepIn K (.ref f7) = true)
    (a8 : PySem.W.nsIn K mainGlobals "_law_shares" = some (some (.ref f8))) (l8 : K.lookup f8 = some ⟨oc8, od8, .func (PySem.W.fnOf "_law_shares" "_law_shares" (defArgs (topS 9)) (defBody (topS 9)) (defScope (topS 9)) .none kV8 dc8 pm8 an8 cd8 ct8), sl8⟩) (c8 : PySem.W.codeIn K cd8 "_law_shares" = true) (k8 : PySem.W.keepIn K (.ref f8) = true)
    (a9 : PySem.W.nsIn K mainGlobals "_law_plan" = some (some (.ref f9))) (l9 : K.lookup f9 = some ⟨oc9, od9, .func (PySem.W.fnOf "_law_plan" "_law_plan" (defArgs (topS 10)) (defBody (topS 10)) (defScope (topS 10)) .none kV9 dc9 pm9 an9 cd9 ct9), sl9⟩) (c9 : PySem.W.codeIn K cd9 "_law_plan" = true) (k9 : PySem.W.keepIn K (.ref f9) = true)
    (a10 : PySem.W.nsIn K mainGlobals "_law_order" = some (some (.ref f10))) (l10 : K.lookup f10 = some ⟨oc10, od10, .func (PySem.W.fnOf "_law_order" "_law_order" (defArgs (topS 11)) (defBody (topS 11)) (defScope (topS 11)) .none kV10 dc10 pm10 an10 cd10 ct10), sl10⟩) (c10 : PySem.W.codeIn K cd10 "_law_order" = true) (k10 : PySem.W.keepIn K (.ref f10) = true)
    (a11 : PySem.W.nsIn K mainGlobals "_law_copy" = some (some (.ref f11))) (l11 : K.lookup f11 = some ⟨oc11, od11, .func (PySem.W.fnOf "_law_copy" "_law_copy" (defArgs (topS 12)) (defBody (topS 12)) (defScope (topS 12)) .none kV11 dc11 pm11 an11 cd11 ct11), sl11⟩) (c11 : PySem.W.codeIn K cd11 "_law_copy" = true) (k11 : PySem.W.keepIn K (.ref f11) = true)
    (a12 : PySem.W.nsIn K mainGlobals "_law_spoilt" = some (some (.ref f12))) (l12 : K.lookup f12 = some ⟨oc12, od12, .func (PySem.W.fnOf "_law_spoilt" "_law_spoilt" (defArgs (topS 13)) (defBody (topS 13)) (defScope (topS 13)) .none kV12 dc12 pm12 an12 cd12 ct12), sl12⟩) (c12 : PySem.W.codeIn K cd12 "_law_spoilt" = true) (k12 : PySem.W.keepIn K (.ref f12) = true)
    (a13 : PySem.W.nsIn K mainGlobals "_law_due" = some (some (.ref f13))) (l13 : K.lookup f13 = some ⟨oc13, od13, .func (PySem.W.fnOf "_law_due" "_law_due" (defArgs (topS 14)) (defBody (topS 14)) (defScope (topS 14)) .none kV13 dc13 pm13 an13 cd13 ct13), sl13⟩) (c13 : PySem.W.codeIn K cd13 "_law_due" = true) (k13 : PySem.W.keepIn K (.ref f13) = true)
    (a14 : PySem.W.nsIn K mainGlobals "law" = some (some (.ref f14))) (l14 : K.lookup f14 = some ⟨oc14, od14, .func (PySem.W.fnOf "law" "law" (defArgs (topS 15)) (defBody (topS 15)) (defScope (topS 15)) .none kV14 dc14 pm14 an14 cd14 ct14), sl14⟩) (c14 : PySem.W.codeIn K cd14 "law" = true) (k14 : PySem.W.keepIn K (.ref f14) = true)
    (z1 : PySem.W.nsIn K mainGlobals "len" = some none)
    (z2 : PySem.W.nsIn K mainGlobals "max" = some none)
    (z3 : PySem.W.nsIn K mainGlobals "range" = some none)
    (z4 : PySem.W.nsIn K mainGlobals "int" = some none)
    (z5 : PySem.W.nsIn K mainGlobals "isinstance" = some none)
    (z6 : PySem.W.nsIn K mainGlobals "list" = some none)
    (z7 : PySem.W.nsIn K mainGlobals "tuple" = some none)
    (z8 : PySem.W.nsIn K mainGlobals "bool" = some none)
    : ∃ fd : FuncData, (∀ (s : Shared) (v : Value), BindsTo s fd ⟨[v], []⟩ [("script", v)]) ∧ ∀ base : Heap, K.In base → base.Ns mainGlobals mg → FnOk l.prog w K mg base CX0 5 fa fd ["script"] (spZ K lawSp) := by
  have e := hfa.symm.trans (PySem.W.mg_of X G a14)
  cases e
  have F1 := fun_mk (x := "is_order") (qual := "is_order") (st := topS 1) l1 c1 k1
  have b1 := F1.binds (ps := ["plan", "order"]) fun _ _ _ _ _ _ us hl => match us, hl with | [_, _], _ => rfl
  have F2 := fun_mk (x := "_law_cell_at") (qual := "_law_cell_at") (st := topS 3) l2 c2 k2
  have b2 := F2.binds (ps := ["script", "k"]) fun _ _ _ _ _ _ us hl => match us, hl with | [_, _], _ => rfl
  have F3 := fun_mk (x := "_law_mixed") (qual := "_law_mixed") (st := topS 4) l3 c3 k3
  have b3 := F3.binds (ps := ["cell", "k"]) fun _ _ _ _ _ _ us hl => match us, hl with | [_, _], _ => rfl
  have F4 := fun_mk (x := "_law_fraction") (qual := "_law_fraction") (st := topS 5) l4 c4 k4
  have b4 := F4.binds (ps := ["top", "bottom"]) fun _ _ _ _ _ _ us hl => match us, hl with | [_, _], _ => rfl
  have F5 := fun_mk (x := "_law_plus") (qual := "_law_plus") (st := topS 6) l5 c5 k5
  have b5 := F5.binds (ps := ["q", "r"]) fun _ _ _ _ _ _ us hl => match us, hl with | [_, _], _ => rfl
  have F6 := fun_mk (x := "_law_times") (qual := "_law_times") (st := topS 7) l6 c6 k6
  have b6 := F6.binds (ps := ["q", "r"]) fun _ _ _ _ _ _ us hl => match us, hl with | [_, _], _ => rfl
  have F7 := fun_mk (x := "_law_bounds") (qual := "_law_bounds") (st := topS 8) l7 c7 k7
  have b7 := F7.binds (ps := ["left"]) fun _ _ _ _ _ _ us hl => match us, hl with | [_], _ => rfl
  have F8 := fun_mk (x := "_law_shares") (qual := "_law_shares") (st := topS 9) l8 c8 k8
  have b8 := F8.binds (ps := ["left", "many"]) fun _ _ _ _ _ _ us hl => match us, hl with | [_, _], _ => rfl
  have F9 := fun_mk (x := "_law_plan") (qual := "_law_plan") (st := topS 10) l9 c9 k9
  have b9 := F9.binds (ps := ["script"]) fun _ _ _ _ _ _ us hl => match us, hl with | [_], _ => rfl
  have F10 := fun_mk (x := "_law_order") (qual := "_law_order") (st := topS 11) l10 c10 k10
  have b10 := F10.binds (ps := ["plan", "cell"]) fun _ _ _ _ _ _ us hl => match us, hl with | [_, _], _ => rfl
  have F11 := fun_mk (x := "_law_copy") (qual := "_law_copy") (st := topS 12) l11 c11 k11
  have b11 := F11.binds (ps := ["plan"]) fun _ _ _ _ _ _ us hl => match us, hl with | [_], _ => rfl
  have F12 := fun_mk (x := "_law_spoilt") (qual := "_law_spoilt") (st := topS 13) l12 c12 k12
  have b12 := F12.binds (ps := ["order", "many", "cell"]) fun _ _ _ _ _ _ us hl => match us, hl with | [_, _, _], _ => rfl
  have F13 := fun_mk (x := "_law_due") (qual := "_law_due") (st := topS 14) l13 c13 k13
  have b13 := F13.binds (ps := ["plan", "order"]) fun _ _ _ _ _ _ us hl => match us, hl with | [_, _], _ => rfl
  have F14 := fun_mk (x := "law") (qual := "law") (st := topS 15) l14 c14 k14
  have b14 := F14.binds (ps := ["script"]) fun _ _ _ _ _ _ us hl => match us, hl with | [_], _ => rfl
  have T : Txt K mg := ⟨_, _, ⟨F1, b1, PySem.W.mg_of X G a1⟩, _, _, ⟨F2, b2, PySem.W.mg_of X G a2⟩, _, _, ⟨F3, b3, PySem.W.mg_of X G a3⟩, _, _, ⟨F4, b4, PySem.W.mg_of X G a4⟩, _, _, ⟨F5, b5, PySem.W.mg_of X G a5⟩, _, _, ⟨F6, b6, PySem.W.mg_of X G a6⟩, _, _, ⟨F7, b7, PySem.W.mg_of X G a7⟩, _, _, ⟨F8, b8, PySem.W.mg_of X G a8⟩, _, _, ⟨F9, b9, PySem.W.mg_of X G a9⟩, _, _, ⟨F10, b10, PySem.W.mg_of X G a10⟩, _, _, ⟨F11, b11, PySem.W.mg_of X G a11⟩, _, _, ⟨F12, b12, PySem.W.mg_of X G a12⟩, _, _, ⟨F13, b13, PySem.W.mg_of X G a13⟩, _, _, ⟨F14, b14, PySem.W.mg_of X G a14⟩, PySem.W.mg_none_of X G z1, PySem.W.mg_none_of X G z2, PySem.W.mg_none_of X G z3, PySem.W.mg_none_of X G z4, PySem.W.mg_none_of X G z5, PySem.W.mg_none_of X G z6, PySem.W.mg_none_of X G z7, PySem.W.mg_none_of X G z8⟩
  exact ⟨PySem.W.fnOf "law" "law" (defArgs (topS 15)) (defBody (topS 15)) (defScope (topS 15)) .none kV14 dc14 pm14 an14 cd14 ct14, fun s v => .of_eq rfl, fun base _ _ => ok_law ⟨_, _, ⟨F1, b1, PySem.W.mg_of X G a1⟩, _, _, ⟨F2, b2, PySem.W.mg_of X G a2⟩, _, _, ⟨F3, b3, PySem.W.mg_of X G a3⟩, _, _, ⟨F4, b4, PySem.W.mg_of X G a4⟩, _, _, ⟨F5, b5, PySem.W.mg_of X G a5⟩, _, _, ⟨F6, b6, PySem.W.mg_of X G a6⟩, _, _, ⟨F7, b7, PySem.W.mg_of X G a7⟩, _, _, ⟨F8, b8, PySem.W.mg_of X G a8⟩, _, _, ⟨F9, b9, PySem.W.mg_of X G a9⟩, _, _, ⟨F10, b10, PySem.W.mg_of X G a10⟩, _, _, ⟨F11, b11, PySem.W.mg_of X G a11⟩, _, _, ⟨F12, b12, PySem.W.mg_of X G a12⟩, _, _, ⟨F13, b13, PySem.W.mg_of X G a13⟩, _, _, ⟨F14, b14, PySem.W.mg_of X G a14⟩, PySem.W.mg_none_of X G z1, PySem.W.mg_none_of X G z2, PySem.W.mg_none_of X G z3, PySem.W.mg_none_of X G z4, PySem.W.mg_none_of X G z5, PySem.W.mg_none_of X G z6, PySem.W.mg_none_of X G z7, PySem.W.mg_none_of X G z8⟩⟩
end P67
open PySem PySem.W PyProof.Rows
set_option maxHeartbeats 0 in
theorem PySem.Challenge.cw_shimright_k67_is_an_order_holds : PySem.Challenge.rw_shimright_k67_is_an_order.Holds := by
  w_on; o_law; k_head; (case hw => w_witness2)
  k_fill
  refine L2.walk_of (l := PySem.Challenge.rw_shimright_k67_is_an_order) (n := 63) (k := 5) (x := "script") (CX := fun _ => L2.CX0) (sp := fun w => Z.spZ _ P67.lawSp) rfl (by decide) rfl ⟨rfl, by decide, by decide⟩ (fun w h Y => PySem.W.kIn_of Y) ?F (fun _ H a ns hl _ hS => P67.law_pre hl hS) (fun _ _ _ _ _ h => h)
  case F =>
    intro w mg fa h KX G hmg
    refine' P67.all_mk KX G hmg ?a1 ?l1 ?c1 ?k1 ?a2 ?l2 ?c2 ?k2 ?a3 ?l3 ?c3 ?k3 ?a4 ?l4 ?c4 ?k4 ?a5 ?l5 ?c5 ?k5 ?a6 ?l6 ?c6 ?k6 ?a7 ?l7 ?c7 ?k7 ?a8 ?l8 ?c8 ?k8 ?a9 ?l9 ?c9 ?k9 ?a10 ?l10 ?c10 ?k10 ?a11 ?l11 ?c11 ?k11 ?a12 ?l12 ?c12 ?k12 ?a13 ?l13 ?c13 ?k13 ?a14 ?l14 ?c14 ?k14 ?z1 ?z2 ?z3 ?z4 ?z5 ?z6 ?z7 ?z8
    (case a1 => k_is); (case l1 => k_is); (case c1 => k_is); (case k1 => k_is); (case a2 => k_is); (case l2 => k_is); (case c2 => k_is); (case k2 => k_is); (case a3 => k_is); (case l3 => k_is); (case c3 => k_is); (case k3 => k_is); (case a4 => k_is); (case l4 => k_is); (case c4 => k_is); (case k4 => k_is); (case a5 => k_is); (case l5 => k_is); (case c5 => k_is); (case k5 => k_is); (case a6 => k_is); (case l6 => k_is); (case c6 => k_is); (case k6 => k_is); (case a7 => k_is); (case l7 => k_is); (case c7 => k_is); (case k7 => k_is); (case a8 => k_is); (case l8 => k_is); (case c8 => k_is); (case k8 => k_is); (case a9 => k_is); (case l9 => k_is); (case c9 => k_is); (case k9 => k_is); (case a10 => k_is); (case l10 => k_is); (case c10 => k_is); (case k10 => k_is); (case a11 => k_is); (case l11 => k_is); (case c11 => k_is); (case k11 => k_is); (case a12 => k_is); (case l12 => k_is); (case c12 => k_is); (case k12 => k_is); (case a13 => k_is); (case l13 => k_is); (case c13 => k_is); (case k13 => k_is); (case a14 => k_is); (case l14 => k_is); (case c14 => k_is); (case k14 => k_is); (case z1 => k_is); (case z2 => k_is); (case z3 => k_is); (case z4 => k_is); (case z5 => k_is); (case z6 => k_is); (case z7 => k_is); (case z8 => k_is)