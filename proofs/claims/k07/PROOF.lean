import PyProof.Rows.All
import Wide.All
import OpenK.AllK
import Wide.FinOn
import HandS.ForMost
import HandS.ForExc
import HandS.ExcInit
import HandS.ExcIs
import HandS.ExcField
import HandS.Lambda
import HandS.EndTab
import HandS.Wide
import HandS.TupAny
import HandS.TupMul
import HandS.TupLe
import HandS.Style
import HandS.Flow
import HandS.Walk
import HandS.Zip
import HandS.Rev
import HandS.RevRange
import HandS.Hot
import HandS.ExcCtx
import HandS.IsInst
import HandS.Conv
import HandS.LawCells
import KE.GoesEnum
import KE.GoesMore
import HandS.HotCalls
import HandS.Text
import HandS.Head0
import HandS.Head1
import HandS.Head2
import HandS.HeadEnd
import HandS.HeadHook1
import HandS.HeadHook2
import HandS.HeadHook3
import HandS.HeadHook4
import HandS.HeadWalk
import HandS.NestedK
import PySem.Challenge.RW_fewstories_k07_rows_and_limits
set_option Elab.async false
set_option linter.all false
set_option maxRecDepth 100000
set_option maxHeartbeats 4000000
/-! The data layer, part 1: values as trees, slots that hold data or own an object, and what relates them to the layer below. -/
namespace DL
open PySem PySem.Spec PyProof.Rows L2

abbrev PD := PySem.PyData
abbrev St := L2.St

mutual
inductive Rp (K : PySem.W.Frag) (G : Hp) : V → PD → Prop
  | non : Rp K G .non .none
  | bl (b : Bool) : Rp K G (.bl b) (.bool b)
  | int (i : Int) : Rp K G (.int i) (.int i)
  | str (x : Str) (h : PyData.strOk x = true) (hl : x.length ≤ sizeLine) : Rp K G (.str x) (.str x)
  | lst {a : Addr} {xs : List V} {ds : List PD} (h : G a = some (.lst xs)) (t : Rps K G xs ds) (hz : ds.length ≤ sizeLine) : Rp K G (.ref a) (.list ds)
  | tup {a : Addr} {xs : List V} {ds : List PD} (h : SqT K G a xs) (t : Rps K G xs ds) (hz : ds.length ≤ sizeLine) : Rp K G (.ref a) (.tuple ds)
inductive Rps (K : PySem.W.Frag) (G : Hp) : List V → List PD → Prop
  | nil : Rps K G [] []
  | cons {v : V} {vs : List V} {d : PD} {ds : List PD} (h : Rp K G v d) (t : Rps K G vs ds) : Rps K G (v :: vs) (d :: ds)
end

theorem sqT_mono {K : PySem.W.Frag} {H H' : Hp} {a : Addr} {xs : List V} (e : Same H H') (h : SqT K H a xs) : SqT K H' a xs := by
  rcases h with (h | ⟨o, h⟩) | h
  · exact .inl (.inl (e _ _ h))
  · exact .inl (.inr ⟨o, e _ _ h⟩)
  · exact .inr h

section
variable {K : PySem.W.Frag} {G G' H : Hp}
mutual
theorem Rp.mono (s : Same G G') : ∀ (d : PD) (v : V), Rp K G v d → Rp K G' v d
  | .none, _, h => by cases h; exact .non
  | .bool b, _, h => by cases h; exact .bl b
  | .int i, _, h => by cases h; exact .int i
  | .str x, _, h => by
    cases h with
    | str _ h hl => exact .str x h hl
  | .list ds, _, h => by
    cases h with
    | lst h t hz => exact .lst (s _ _ h) (Rps.mono s ds _ t) hz
  | .tuple ds, _, h => by
    cases h with
    | tup h t hz => exact .tup (sqT_mono s h) (Rps.mono s ds _ t) hz
  | .dict _, _, h => by cases h
theorem Rps.mono (s : Same G G') : ∀ (ds : List PD) (vs : List V), Rps K G vs ds → Rps K G' vs ds
  | [], _, h => by cases h; exact .nil
  | d :: ds, _, h => by
    cases h with
    | cons h t => exact .cons (Rp.mono s d _ h) (Rps.mono s ds _ t)
end
theorem Rp.up {d : PD} {v : V} (h : Rp K G v d) (s : Same G G') : Rp K G' v d := Rp.mono s d v h
theorem Rps.up {ds : List PD} {vs : List V} (h : Rps K G vs ds) (s : Same G G') : Rps K G' vs ds := Rps.mono s ds vs h
mutual
theorem Rp.dp (s : Same G H) : ∀ (d : PD) (v : V), Rp K G v d → Dp K H v d ∧ d.canLay0 = true
  | .none, _, h => by cases h; exact ⟨.non, by simp [PyData.canLay0]⟩
  | .bool b, _, h => by cases h; exact ⟨.bl b, by simp [PyData.canLay0]⟩
  | .int i, _, h => by cases h; exact ⟨.int i, by simp [PyData.canLay0]⟩
  | .str x, _, h => by
    cases h with
    | str _ h hl => exact ⟨.str x, by simpa [PyData.canLay0] using h⟩
  | .list ds, _, h => by
    cases h with
    | lst h t hz =>
      obtain ⟨a, b⟩ := Rps.dp s ds _ t
      exact ⟨.lst (.inl (.inl (s _ _ h))) a, by simpa [PyData.canLay0] using b⟩
  | .tuple ds, _, h => by
    cases h with
    | tup h t hz =>
      obtain ⟨a, b⟩ := Rps.dp s ds _ t
      exact ⟨.tup (sqT_mono s h) a, by simpa [PyData.canLay0] using b⟩
  | .dict _, _, h => by cases h
theorem Rps.dp (s : Same G H) : ∀ (ds : List PD) (vs : List V), Rps K G vs ds → DpAll K H vs ds ∧ PyData.canLayAll0 ds = true
  | [], _, h => by cases h; exact ⟨.nil, by simp [PyData.canLayAll0]⟩
  | d :: ds, _, h => by
    cases h with
    | cons h t =>
      obtain ⟨a, b⟩ := Rp.dp s d _ h
      obtain ⟨c, e⟩ := Rps.dp s ds _ t
      exact ⟨.cons a c, by simp [PyData.canLayAll0, b, e]⟩
end
theorem Rps.length : ∀ {vs : List V} {ds : List PD}, Rps K G vs ds → vs.length = ds.length
  | [], [], _ => rfl
  | [], _ :: _, h => by cases h
  | _ :: _, [], h => by cases h
  | v :: vs, d :: ds, h => by
    cases h with
    | cons h t => simp [Rps.length t]
theorem Rps.get : ∀ {vs : List V} {ds : List PD} {i : Nat} {v : V}, Rps K G vs ds → vs[i]? = some v → ∃ d, ds[i]? = some d ∧ Rp K G v d
  | [], _, _, _, _, e => by simp at e
  | v :: vs, [], _, _, h, _ => by cases h
  | v :: vs, d :: ds, 0, w, h, e => by
    cases h with
    | cons h t => simp at e; subst e; exact ⟨d, by simp, h⟩
  | v :: vs, d :: ds, i + 1, w, h, e => by
    cases h with
    | cons h t => simpa using Rps.get (i := i) t (by simpa using e)
theorem Rps.getD : ∀ {vs : List V} {ds : List PD} {i : Nat} {d : PD}, Rps K G vs ds → ds[i]? = some d → ∃ v, vs[i]? = some v ∧ Rp K G v d
  | _, [], _, _, _, e => by simp at e
  | [], d :: ds, _, _, h, _ => by cases h
  | v :: vs, d :: ds, 0, w, h, e => by
    cases h with
    | cons h t => simp at e; subst e; exact ⟨v, by simp, h⟩
  | v :: vs, d :: ds, i + 1, w, h, e => by
    cases h with
    | cons h t => simpa using Rps.getD (i := i) t (by simpa using e)
theorem Rps.append : ∀ {vs ws : List V} {ds es : List PD}, Rps K G vs ds → Rps K G ws es → Rps K G (vs ++ ws) (ds ++ es)
  | [], _, [], _, _, h => h
  | [], _, _ :: _, _, h, _ => by cases h
  | _ :: _, _, [], _, h, _ => by cases h
  | v :: vs, _, d :: ds, _, h, t => by
    cases h with
    | cons h s => exact .cons h (Rps.append s t)
theorem Rps.one {v : V} {d : PD} (h : Rp K G v d) : Rps K G [v] [d] := .cons h .nil
theorem Rps.take (n : Nat) : ∀ {vs : List V} {ds : List PD}, Rps K G vs ds → Rps K G (vs.take n) (ds.take n) := by
  induction n with
  | zero => intro vs ds h; simpa using Rps.nil
  | succ n ih =>
    intro vs ds h
    cases h with
    | nil => simpa using Rps.nil
    | cons h t => simpa using Rps.cons h (ih t)
theorem Rps.drop (n : Nat) : ∀ {vs : List V} {ds : List PD}, Rps K G vs ds → Rps K G (vs.drop n) (ds.drop n) := by
  induction n with
  | zero => intro vs ds h; simpa using h
  | succ n ih =>
    intro vs ds h
    cases h with
    | nil => simpa using Rps.nil
    | cons h t => simpa using ih t
theorem Rps.set {v : V} {d : PD} (h : Rp K G v d) : ∀ (i : Nat) {vs : List V} {ds : List PD}, Rps K G vs ds → Rps K G (vs.set i v) (ds.set i d)
  | _, [], [], _ => .nil
  | _, [], _ :: _, t => by cases t
  | _, _ :: _, [], t => by cases t
  | 0, _ :: _, _ :: _, t => by
    cases t with
    | cons _ t => exact .cons h t
  | i + 1, _ :: _, _ :: _, t => by
    cases t with
    | cons q t => exact .cons q (Rps.set h i t)
theorem Rps.reverse : ∀ {vs : List V} {ds : List PD}, Rps K G vs ds → Rps K G vs.reverse ds.reverse
  | [], [], _ => .nil
  | [], _ :: _, h => by cases h
  | _ :: _, [], h => by cases h
  | v :: vs, d :: ds, h => by
    cases h with
    | cons h t => rw [List.reverse_cons, List.reverse_cons]; exact (Rps.reverse t).append (.one h)
theorem Rps.dropLast {vs : List V} {ds : List PD} (h : Rps K G vs ds) : Rps K G vs.dropLast ds.dropLast := by
  rw [List.dropLast_eq_take, List.dropLast_eq_take, h.length]; exact h.take _
theorem Rps.rep {v : V} {d : PD} (h : Rp K G v d) : ∀ n : Nat, Rps K G (List.replicate n v) (List.replicate n d)
  | 0 => .nil
  | n + 1 => .cons h (Rps.rep h n)
theorem Rps.flat {vs : List V} {ds : List PD} (h : Rps K G vs ds) : ∀ n : Nat, Rps K G (List.replicate n vs).flatten (List.replicate n ds).flatten
  | 0 => .nil
  | n + 1 => by
    rw [List.replicate_succ, List.replicate_succ, List.flatten_cons, List.flatten_cons]
    exact h.append (Rps.flat h n)
theorem Rps.mem {vs : List V} {ds : List PD} (h : Rps K G vs ds) {v : V} (m : v ∈ vs) : ∃ d, d ∈ ds ∧ Rp K G v d := by
  obtain ⟨i, hi, e⟩ := List.mem_iff_getElem.mp m
  obtain ⟨d, h1, h2⟩ := h.get (i := i) (v := v) (by rw [List.getElem?_eq_getElem hi, e])
  exact ⟨d, List.mem_of_getElem? h1, h2⟩
theorem rps_ints : ∀ (ns : List Int), Rps K G (ns.map V.int) (ns.map PyData.int)
  | [] => .nil
  | n :: r => .cons (.int n) (rps_ints r)
/-! inversions -/
theorem Rp.int_inv {v : V} {i : Int} (h : Rp K G v (.int i)) : v = .int i := by cases h; rfl
theorem Rp.bl_inv {v : V} {b : Bool} (h : Rp K G v (.bool b)) : v = .bl b := by cases h; rfl
theorem Rp.non_inv {v : V} (h : Rp K G v .none) : v = .non := by cases h; rfl
theorem Rp.str_inv {v : V} {x : Str} (h : Rp K G v (.str x)) : v = .str x ∧ PyData.strOk x = true ∧ x.length ≤ sizeLine := by cases h; exact ⟨rfl, by assumption, by assumption⟩
theorem Rp.lst_inv {v : V} {ds : List PD} (h : Rp K G v (.list ds)) : ∃ a xs, v = .ref a ∧ G a = some (.lst xs) ∧ Rps K G xs ds ∧ ds.length ≤ sizeLine := by
  cases h with
  | lst h t hz => exact ⟨_, _, rfl, h, t, hz⟩
theorem Rp.tup_inv {v : V} {ds : List PD} (h : Rp K G v (.tuple ds)) : ∃ a xs, v = .ref a ∧ SqT K G a xs ∧ Rps K G xs ds ∧ ds.length ≤ sizeLine := by
  cases h with
  | tup h t hz => exact ⟨_, _, rfl, h, t, hz⟩
theorem rps_ints_inv : ∀ {vs : List V} {ns : List Int}, Rps K G vs (ns.map PyData.int) → vs = ns.map V.int
  | [], [], _ => rfl
  | [], _ :: _, h => by cases h
  | _ :: _, [], h => by cases h
  | v :: vs, n :: ns, h => by
    cases h with
    | cons h t => rw [h.int_inv, rps_ints_inv t]; rfl
theorem rps_bls_inv : ∀ {vs : List V} {ns : List Bool}, Rps K G vs (ns.map PyData.bool) → vs = ns.map V.bl
  | [], [], _ => rfl
  | [], _ :: _, h => by cases h
  | _ :: _, [], h => by cases h
  | v :: vs, n :: ns, h => by
    cases h with
    | cons h t => rw [h.bl_inv, rps_bls_inv t]; rfl
theorem rps_strs_inv : ∀ {vs : List V} {ns : List Str}, Rps K G vs (ns.map PyData.str) → vs = ns.map V.str
  | [], [], _ => rfl
  | [], _ :: _, h => by cases h
  | _ :: _, [], h => by cases h
  | v :: vs, n :: ns, h => by
    cases h with
    | cons h t => rw [h.str_inv.1, rps_strs_inv t]; rfl
end

/-! ### slots -/
/-- what an owned object holds -/
inductive OC where
  | lst (xs : List PD)
  | dic (kvs : List (Key × PD))
/-- what a slot holds: nothing that is known, data, an object of its own, an object of the caller's -/
inductive SC where
  | u | d (x : PD) | own (c : OC) | io (c : OC) | pin (v : V)
inductive Res where
  | d (x : PD) | o (c : OC)
abbrev SS := List SC
structure Exn where
  cls : Str
  what : PD
def isOwn : SC → Bool
  | .own _ => true
  | .io _ => true
  | _ => false
inductive CRel (K : PySem.W.Frag) (G : Hp) : HO → OC → Prop
  | lst {vs : List V} {xs : List PD} (h : Rps K G vs xs) (hz : xs.length ≤ sizeLine) : CRel K G (.lst vs) (.lst xs)
  | dic {kvs : List (Key × V)} {ds : List (Key × PD)} (h : Paired (fun (p : Key × V) (q : Key × PD) => p.1 = q.1 ∧ Rp K G p.2 q.2) kvs ds) : CRel K G (.dK kvs) (.dic ds)
theorem CRel.up {K : PySem.W.Frag} {G G' : Hp} {o : HO} {c : OC} (h : CRel K G o c) (s : Same G G') : CRel K G' o c := by
  cases h with
  | lst h hz => exact .lst (h.up s) hz
  | dic h => exact .dic (L2.Paired.mapP h fun p q z => ⟨z.1, z.2.up s⟩)
theorem CRel.ntb {K : PySem.W.Frag} {G : Hp} {o : HO} {c : OC} (h : CRel K G o c) : ∀ ps, o ≠ .tbl ps := by
  cases h <;> (intro ps e; cases e)
theorem CRel.lst_inv {K : PySem.W.Frag} {G : Hp} {o : HO} {xs : List PD} (h : CRel K G o (.lst xs)) : ∃ vs, o = .lst vs ∧ Rps K G vs xs ∧ xs.length ≤ sizeLine := by
  cases h with
  | lst h hz => exact ⟨_, rfl, h, hz⟩

/-- the entry: the frozen part, the heap, the tables of code objects, where the caller's objects stand -/
structure Ent where
  G : Hp
  H : Hp
  T : List (Addr × Str)
  io : Nat → Option Addr
def Ent.ioA (En : Ent) (a : Addr) : Prop := ∃ i, En.io i = some a

structure Grow (io : Addr → Prop) (G H G' H' : Hp) : Prop where
  sub : Same G' H'
  ext : Same G G'
  prv : ∀ p, G p = none → H p ≠ none → G' p = none
  frm : ∀ p o, H p = some o → ¬ io p → (∀ ps, o ≠ .tbl ps) → H' p = some o
  pers : ∀ p, H p ≠ none → H' p ≠ none
  ntb : ∀ a ps, G' a ≠ some (.tbl ps)
theorem Grow.refl {io : Addr → Prop} {G H : Hp} (s : Same G H) (n : ∀ a ps, G a ≠ some (.tbl ps)) : Grow io G H G H :=
  ⟨s, Same.refl G, fun _ h _ => h, fun _ _ h _ _ => h, fun _ h => h, n⟩
theorem Grow.trans {io io' : Addr → Prop} {G H G1 H1 G2 H2 : Hp} (a : Grow io G H G1 H1) (b : Grow io' G1 H1 G2 H2) (h : ∀ p, io' p → H p = none ∨ io p) : Grow io G H G2 H2 :=
  ⟨b.sub, a.ext.trans b.ext, fun p e n => b.prv p (a.prv p e n) (a.pers p n), fun p o e ni nt => b.frm p o (a.frm p o e ni nt) (fun q => (h p q).elim (fun z => by rw [z] at e; cases e) ni) nt, fun p n => b.pers p (a.pers p n), b.ntb⟩
theorem Grow.imp {io io' : Addr → Prop} {G H G' H' : Hp} (a : Grow io G H G' H') (h : ∀ p, io p → H p ≠ none → io' p) : Grow io' G H G' H' :=
  ⟨a.sub, a.ext, a.prv, fun p o e ni nt => a.frm p o e (fun q => ni (h p q (by rw [e]; simp))) nt, a.pers, a.ntb⟩
abbrev no1 : Addr → Prop := fun _ => False
theorem upd_pers {H : Hp} {p : Addr} {o : HO} : ∀ q, H q ≠ none → upd H p o q ≠ none := fun q h => by
  unfold upd
  split
  · simp
  · exact h
theorem same_new {H : Hp} {p : Addr} {o : HO} (h : H p = none) : Same H (upd H p o) := fun b u e => by
  rw [upd_ne (ne_of_none e h)]; exact e
theorem same_upd2 {G H : Hp} {p : Addr} {o : HO} (s : Same G H) : Same (upd G p o) (upd H p o) := fun b u e => by
  by_cases hb : b = p
  · subst hb; rw [upd_same] at e ⊢; exact e
  · rw [upd_ne hb] at e ⊢; exact s _ _ e
theorem ntb_upd {G : Hp} {p : Addr} {o : HO} (n : ∀ a ps, G a ≠ some (.tbl ps)) (ho : ∀ ps, o ≠ .tbl ps) : ∀ a ps, upd G p o a ≠ some (.tbl ps) := fun a ps e => by
  by_cases ha : a = p
  · subst ha; rw [upd_same] at e; exact ho ps (Option.some.inj e)
  · rw [upd_ne ha] at e; exact n a ps e
/-- a new frozen object -/
theorem Grow.alloc {G H : Hp} {p : Addr} {o : HO} (s : Same G H) (n : ∀ a ps, G a ≠ some (.tbl ps)) (hp : H p = none) (ho : ∀ ps, o ≠ .tbl ps) : Grow no1 G H (upd G p o) (upd H p o) :=
  ⟨same_upd2 s, same_new (s.free hp), fun q e nq => by rw [upd_ne (fun z => nq (by rw [z]; exact hp))]; exact e, fun q u e _ _ => same_new hp q u e, upd_pers, ntb_upd n ho⟩
/-- a new object that is not frozen -/
theorem Grow.fresh {G H : Hp} {p : Addr} {o : HO} (s : Same G H) (n : ∀ a ps, G a ≠ some (.tbl ps)) (hp : H p = none) : Grow no1 G H G (upd H p o) :=
  ⟨s.trans (same_new hp), Same.refl G, fun _ e _ => e, fun q u e _ _ => same_new hp q u e, upd_pers, n⟩
/-- an object that is not frozen is changed -/
theorem Grow.write {G H : Hp} {p : Addr} {o : HO} (s : Same G H) (n : ∀ a ps, G a ≠ some (.tbl ps)) (hp : G p = none) : Grow (fun a => a = p) G H G (upd H p o) :=
  ⟨fun b u e => by rw [upd_ne (ne_of_none e hp)]; exact s _ _ e, Same.refl G, fun _ e _ => e, fun q u e ne _ => by rw [upd_ne ne]; exact e, upd_pers, n⟩

def SRel (En : Ent) (K : PySem.W.Frag) (G H : Hp) (i : Nat) (v : Option V) : SC → Prop
  | .u => True
  | .d x => ∃ y, v = some y ∧ Rp K G y x
  | .own c => ∃ a o, v = some (V.ref a) ∧ H a = some o ∧ CRel K G o c ∧ G a = none ∧ En.H a = none
  | .io c => ∃ a o, v = some (V.ref a) ∧ H a = some o ∧ CRel K G o c ∧ G a = none ∧ En.io i = some a
  | .pin x => v = some x
theorem SRel.keep {En : Ent} {K : PySem.W.Frag} {G H G' H' : Hp} {i : Nat} {v : Option V} {c : SC} {io : Addr → Prop} (h : SRel En K G H i v c) (g : Grow io G H G' H') (n : ∀ a, v = some (V.ref a) → isOwn c = true → ¬ io a) : SRel En K G' H' i v c := by
  cases c with
  | u => trivial
  | d x =>
    obtain ⟨y, e, r⟩ := h
    exact ⟨y, e, r.up g.ext⟩
  | own c =>
    obtain ⟨a, o, e, h1, h2, h3, h4⟩ := h
    exact ⟨a, o, e, g.frm a o h1 (n a e rfl) h2.ntb, h2.up g.ext, g.prv a h3 (by rw [h1]; simp), h4⟩
  | io c =>
    obtain ⟨a, o, e, h1, h2, h3, h4⟩ := h
    exact ⟨a, o, e, g.frm a o h1 (n a e rfl) h2.ntb, h2.up g.ext, g.prv a h3 (by rw [h1]; simp), h4⟩
  | pin x => exact h

structure Rl (K : PySem.W.Frag) (En : Ent) (Γ : SS) (G : Hp) (σ : St) (H : Hp) : Prop where
  gr : Grow En.ioA En.G En.H G H
  tab : LamX.Tabs En.T H
  len : Γ.length = σ.length
  slot : ∀ (i : Nat) (c : SC), Γ[i]? = some c → ∃ v, σ[i]? = some v ∧ SRel En K G H i v c
  dis : ∀ (i j : Nat) (ci cj : SC) (a : Addr), i ≠ j → Γ[i]? = some ci → Γ[j]? = some cj → isOwn ci = true → isOwn cj = true → σ[i]? = some (some (V.ref a)) → σ[j]? = some (some (V.ref a)) → False

section
variable {K : PySem.W.Frag} {En : Ent} {Γ Γ' : SS} {G G' : Hp} {σ : St} {H H' : Hp} {i : Nat} {io : Addr → Prop}
theorem Rl.sub (r : Rl K En Γ G σ H) : Same G H := r.gr.sub
theorem Rl.ntb (r : Rl K En Γ G σ H) : ∀ a ps, G a ≠ some (.tbl ps) := r.gr.ntb
/-- a further state over the same slots -/
theorem Rl.next (r : Rl K En Γ G σ H) (g : Grow io G H G' H') (hio : ∀ p, io p → En.H p = none ∨ En.ioA p) (t : LamX.Tabs En.T H') (hl : Γ'.length = Γ.length) (hs : ∀ (i : Nat) (c : SC), Γ'[i]? = some c → ∃ v, σ[i]? = some v ∧ SRel En K G' H' i v c)
    (ho : ∀ (i : Nat) (c : SC), Γ'[i]? = some c → isOwn c = true → ∃ c', Γ[i]? = some c' ∧ isOwn c' = true) : Rl K En Γ' G' σ H' :=
  ⟨r.gr.trans g hio, t, hl.trans r.len, hs, fun i j ci cj a n e1 e2 o1 o2 => by
    obtain ⟨c1, f1, p1⟩ := ho i ci e1 o1
    obtain ⟨c2, f2, p2⟩ := ho j cj e2 o2
    exact r.dis i j c1 c2 a n f1 f2 p1 p2⟩
/-- .. where nothing of ours has changed -/
theorem Rl.grow (r : Rl K En Γ G σ H) (g : Grow no1 G H G' H') (t : LamX.Tabs En.T H') : Rl K En Γ G' σ H' :=
  r.next g (fun _ h => h.elim) t rfl (fun i c e => by
    obtain ⟨v, e1, h⟩ := r.slot i c e
    exact ⟨v, e1, h.keep g fun _ _ _ h => h⟩) fun i c e o => ⟨c, e, o⟩
theorem tabs_upd {T : List (Addr × Str)} {p : Addr} {o : HO} (t : LamX.Tabs T H) (hp : H p = none) : LamX.Tabs T (upd H p o) := t.ext (same_new hp)
theorem Rl.alloc {p : Addr} {o : HO} (r : Rl K En Γ G σ H) (hp : H p = none) (ho : ∀ ps, o ≠ .tbl ps) : Rl K En Γ (upd G p o) σ (upd H p o) :=
  r.grow (Grow.alloc r.sub r.ntb hp ho) (tabs_upd r.tab hp)
theorem Rl.fresh {p : Addr} {o : HO} (r : Rl K En Γ G σ H) (hp : H p = none) : Rl K En Γ G σ (upd H p o) :=
  r.grow (Grow.fresh r.sub r.ntb hp) (tabs_upd r.tab hp)
theorem Rl.free {p : Addr} (r : Rl K En Γ G σ H) (hp : H p = none) : G p = none := r.sub.free hp
theorem Rl.freeE {p : Addr} (r : Rl K En Γ G σ H) (hp : H p = none) : En.H p = none := by
  cases e : En.H p with
  | none => rfl
  | some o => exact absurd hp (r.gr.pers p (by rw [e]; simp))
/-- an object that our slots don't own is not one of theirs -/
def Apart (Γ : SS) (σ : St) (a : Addr) : Prop := ∀ (i : Nat) (c : SC), Γ[i]? = some c → isOwn c = true → σ[i]? ≠ some (some (V.ref a))
theorem Rl.apart {p : Addr} (r : Rl K En Γ G σ H) (hp : H p = none) : Apart Γ σ p := fun i c e o z => by
  obtain ⟨v, e1, h⟩ := r.slot i c e
  rw [z] at e1
  cases e1
  cases c with
  | u => cases o
  | d _ => cases o
  | pin _ => cases o
  | own c =>
    obtain ⟨a, u, e2, h1, _⟩ := h
    cases e2
    rw [hp] at h1; cases h1
  | io c =>
    obtain ⟨a, u, e2, h1, _⟩ := h
    cases e2
    rw [hp] at h1; cases h1
theorem Rl.apartG {p : Addr} {o : HO} (r : Rl K En Γ G σ H) (hp : G p = some o) : Apart Γ σ p := fun i c e ow z => by
  obtain ⟨v, e1, h⟩ := r.slot i c e
  rw [z] at e1
  cases e1
  cases c with
  | u => cases ow
  | d _ => cases ow
  | pin _ => cases ow
  | own c =>
    obtain ⟨a, u, e2, h1, _, h3, _⟩ := h
    cases e2
    rw [hp] at h3; cases h3
  | io c =>
    obtain ⟨a, u, e2, h1, _, h3, _⟩ := h
    cases e2
    rw [hp] at h3; cases h3
theorem Rl.set {v : V} {c : SC} (r : Rl K En Γ G σ H) (hr : SRel En K G H i (some v) c) (hd : ∀ a, v = V.ref a → isOwn c = true → Apart Γ σ a) : Rl K En (Γ.set i c) G (σ.set i (some v)) H := by
  refine ⟨r.gr, r.tab, by simpa using r.len, fun j c' e => ?_, fun j k cj ck a n e1 e2 o1 o2 z1 z2 => ?_⟩
  · by_cases h : i = j
    · subst h
      have hl : i < Γ.length := by
        by_cases q : i < Γ.length
        · exact q
        · rw [List.getElem?_eq_none (by simpa using q)] at e; cases e
      rw [List.getElem?_set_self hl] at e
      cases e
      exact ⟨some v, List.getElem?_set_self (by rw [← r.len]; exact hl), hr⟩
    · rw [List.getElem?_set_ne h] at e
      rw [List.getElem?_set_ne h]
      exact r.slot j c' e
  · by_cases h1 : i = j
    · subst h1
      have h2 : i ≠ k := n
      have hl : i < Γ.length := by
        by_cases q : i < Γ.length
        · exact q
        · rw [List.getElem?_eq_none (by simpa using q)] at e1; cases e1
      rw [List.getElem?_set_self hl] at e1
      rw [List.getElem?_set_self (by rw [← r.len]; exact hl)] at z1
      cases e1
      rw [List.getElem?_set_ne h2] at e2 z2
      have ev : v = V.ref a := by simpa using z1
      exact hd a ev o1 k ck e2 o2 z2
    · rw [List.getElem?_set_ne h1] at e1 z1
      by_cases h2 : i = k
      · subst h2
        have hl : i < Γ.length := by
          by_cases q : i < Γ.length
          · exact q
          · rw [List.getElem?_eq_none (by simpa using q)] at e2; cases e2
        rw [List.getElem?_set_self hl] at e2
        rw [List.getElem?_set_self (by rw [← r.len]; exact hl)] at z2
        cases e2
        have ev : v = V.ref a := by simpa using z2
        exact hd a ev o2 j cj e1 o1 z1
      · rw [List.getElem?_set_ne h2] at e2 z2
        exact r.dis j k cj ck a n e1 e2 o1 o2 z1 z2
theorem Rl.setD {v : V} {x : PD} (r : Rl K En Γ G σ H) (hr : Rp K G v x) : Rl K En (Γ.set i (.d x)) G (σ.set i (some v)) H :=
  r.set ⟨v, rfl, hr⟩ fun _ _ z => Bool.noConfusion z
/-- a slot's word is changed, its value is not -/
theorem Rl.recast {v : Option V} {c : SC} (r : Rl K En Γ G σ H) (hv : σ[i]? = some v) (hr : SRel En K G H i v c) (ho : isOwn c = true → ∃ c', Γ[i]? = some c' ∧ isOwn c' = true) : Rl K En (Γ.set i c) G σ H := by
  refine ⟨r.gr, r.tab, by simpa using r.len, fun j c' e => ?_, fun j k cj ck a n e1 e2 o1 o2 z1 z2 => ?_⟩
  · by_cases h : i = j
    · subst h
      have hl : i < Γ.length := by
        by_cases q : i < Γ.length
        · exact q
        · rw [List.getElem?_eq_none (by simpa using q)] at e; cases e
      rw [List.getElem?_set_self hl] at e
      cases e
      exact ⟨v, hv, hr⟩
    · rw [List.getElem?_set_ne h] at e
      exact r.slot j c' e
  · have key : ∀ {l : Nat} {cl : SC}, (Γ.set i c)[l]? = some cl → isOwn cl = true → ∃ c', Γ[l]? = some c' ∧ isOwn c' = true := fun {l cl} e o => by
      by_cases h : i = l
      · subst h
        have hl : i < Γ.length := by
          by_cases q : i < Γ.length
          · exact q
          · rw [List.getElem?_eq_none (by simpa using q)] at e; cases e
        rw [List.getElem?_set_self hl] at e
        cases e
        exact ho o
      · rw [List.getElem?_set_ne h] at e
        exact ⟨cl, e, o⟩
    obtain ⟨c1, f1, p1⟩ := key e1 o1
    obtain ⟨c2, f2, p2⟩ := key e2 o2
    exact r.dis j k c1 c2 a n f1 f2 p1 p2 z1 z2
end
def ocD : OC → Option PD
  | .lst xs => some (.list xs)
  | .dic _ => none
section
variable {K : PySem.W.Frag} {En : Ent} {Γ Γ' : SS} {G G' : Hp} {σ : St} {H H' : Hp} {i : Nat}
/-- an object is frozen -/
theorem Rl.freeze {a : Addr} {o : HO} (r : Rl K En Γ G σ H) (ha : H a = some o) (hn : ∀ ps, o ≠ .tbl ps) (hG : G a = none) (hE : En.H a = none) (hap : Apart Γ σ a) : Rl K En Γ (upd G a o) σ H := by
  have sG : Same G (upd G a o) := same_new hG
  refine ⟨⟨fun b u e => ?_, r.gr.ext.trans sG, fun p e n => ?_, r.gr.frm, r.gr.pers, ntb_upd r.ntb hn⟩, r.tab, r.len, fun j c e => ?_, r.dis⟩
  · by_cases hb : b = a
    · subst hb; rw [upd_same] at e; cases e; exact ha
    · rw [upd_ne hb] at e; exact r.sub _ _ e
  · rw [upd_ne (fun z => n (by rw [z]; exact hE))]
    exact r.gr.prv p e n
  · obtain ⟨v, e1, h⟩ := r.slot j c e
    refine ⟨v, e1, ?_⟩
    cases c with
    | u => trivial
    | pin _ => exact h
    | d x =>
      obtain ⟨y, e2, h⟩ := h
      exact ⟨y, e2, h.up sG⟩
    | own c =>
      obtain ⟨b, u, e2, h1, h2, h3, h4⟩ := h
      subst e2
      refine ⟨b, u, rfl, h1, h2.up sG, ?_, h4⟩
      rw [upd_ne (fun z => hap j _ e rfl (by rw [e1, z]))]
      exact h3
    | io c =>
      obtain ⟨b, u, e2, h1, h2, h3, h4⟩ := h
      subst e2
      refine ⟨b, u, rfl, h1, h2.up sG, ?_, h4⟩
      rw [upd_ne (fun z => hap j _ e rfl (by rw [e1, z]))]
      exact h3
theorem Rl.wipe1 (r : Rl K En Γ G σ H) : Rl K En (Γ.set i .u) G (σ.set i none) H := by
  refine ⟨r.gr, r.tab, by simpa using r.len, fun j c e => ?_, fun j k cj ck a n e1 e2 o1 o2 z1 z2 => ?_⟩
  · by_cases h : i = j
    · subst h
      have hl : i < Γ.length := by
        by_cases q : i < Γ.length
        · exact q
        · rw [List.getElem?_eq_none (by simpa using q)] at e; cases e
      rw [List.getElem?_set_self hl] at e
      cases e
      exact ⟨none, List.getElem?_set_self (by rw [← r.len]; exact hl), trivial⟩
    · rw [List.getElem?_set_ne h] at e ⊢
      exact r.slot j c e
  · have key : ∀ {l : Nat} {cl : SC}, (Γ.set i .u)[l]? = some cl → isOwn cl = true → i ≠ l := fun {l cl} e o z => by
      subst z
      have hl : i < Γ.length := by
        by_cases q : i < Γ.length
        · exact q
        · rw [List.getElem?_eq_none (by simpa using q)] at e; cases e
      rw [List.getElem?_set_self hl] at e
      cases e
      cases o
    have n1 := key e1 o1
    have n2 := key e2 o2
    rw [List.getElem?_set_ne n1] at e1 z1
    rw [List.getElem?_set_ne n2] at e2 z2
    exact r.dis j k cj ck a n e1 e2 o1 o2 z1 z2
end
/-- the slots that own something now did so ahead, and hold the same -/
def OwnSub (Γ' : SS) (σ' : St) (Γ : SS) (σ : St) : Prop := ∀ (i : Nat) (c : SC), Γ'[i]? = some c → isOwn c = true → (∃ c', Γ[i]? = some c' ∧ isOwn c' = true) ∧ σ'[i]? = σ[i]?
theorem OwnSub.refl {Γ : SS} {σ : St} : OwnSub Γ σ Γ σ := fun i c e o => ⟨⟨c, e, o⟩, rfl⟩
theorem OwnSub.trans {Γ Γ1 Γ2 : SS} {σ σ1 σ2 : St} (b : OwnSub Γ2 σ2 Γ1 σ1) (a : OwnSub Γ1 σ1 Γ σ) : OwnSub Γ2 σ2 Γ σ := fun i c e o => by
  obtain ⟨⟨c', e', o'⟩, h⟩ := b i c e o
  obtain ⟨h2, h3⟩ := a i c' e' o'
  exact ⟨h2, h.trans h3⟩
theorem OwnSub.apart {Γ Γ' : SS} {σ σ' : St} {p : Addr} (a : OwnSub Γ' σ' Γ σ) (h : Apart Γ σ p) : Apart Γ' σ' p := fun i c e o z => by
  obtain ⟨⟨c', e', o'⟩, q⟩ := a i c e o
  exact h i c' e' o' (by rw [← q]; exact z)
theorem OwnSub.setD {Γ : SS} {σ : St} {i : Nat} {x : PD} {v : Option V} : OwnSub (Γ.set i (.d x)) (σ.set i v) Γ σ := fun j c e o => by
  by_cases h : i = j
  · subst h
    have hl : i < Γ.length := by
      by_cases q : i < Γ.length
      · exact q
      · rw [List.getElem?_eq_none (by simpa using q)] at e; cases e
    rw [List.getElem?_set_self hl] at e
    cases e
    cases o
  · rw [List.getElem?_set_ne h] at e ⊢
    exact ⟨⟨c, e, o⟩, rfl⟩
theorem OwnSub.setU {Γ : SS} {σ : St} {i : Nat} {v : Option V} : OwnSub (Γ.set i .u) (σ.set i v) Γ σ := fun j c e o => by
  by_cases h : i = j
  · subst h
    have hl : i < Γ.length := by
      by_cases q : i < Γ.length
      · exact q
      · rw [List.getElem?_eq_none (by simpa using q)] at e; cases e
    rw [List.getElem?_set_self hl] at e
    cases e
    cases o
  · rw [List.getElem?_set_ne h] at e ⊢
    exact ⟨⟨c, e, o⟩, rfl⟩
/-- how far an evaluation has come: what no slot of ours owns stands as it stood -/
structure Adv (Γ : SS) (σ : St) (G H : Hp) (Γ' : SS) (σ' : St) (G' H' : Hp) : Prop where
  same : Same G G'
  frm : ∀ p o, H p = some o → Apart Γ σ p → (∀ ps, o ≠ .tbl ps) → H' p = some o
  prv : ∀ p, H p ≠ none → G p = none → Apart Γ σ p → G' p = none
  pers : ∀ p, H p ≠ none → H' p ≠ none
  own : OwnSub Γ' σ' Γ σ
theorem Adv.refl {Γ : SS} {σ : St} {G H : Hp} : Adv Γ σ G H Γ σ G H := ⟨Same.refl G, fun _ _ h _ _ => h, fun _ _ h _ => h, fun _ h => h, .refl⟩
theorem Adv.apart {Γ Γ' : SS} {σ σ' : St} {G H G' H' : Hp} {p : Addr} (a : Adv Γ σ G H Γ' σ' G' H') (h : Apart Γ σ p) : Apart Γ' σ' p := a.own.apart h
theorem Adv.trans {Γ Γ1 Γ2 : SS} {σ σ1 σ2 : St} {G H G1 H1 G2 H2 : Hp} (a : Adv Γ σ G H Γ1 σ1 G1 H1) (b : Adv Γ1 σ1 G1 H1 Γ2 σ2 G2 H2) : Adv Γ σ G H Γ2 σ2 G2 H2 :=
  ⟨a.same.trans b.same, fun p o e ap n => b.frm p o (a.frm p o e ap n) (a.apart ap) n, fun p n e ap => b.prv p (a.pers p n) (a.prv p n e ap) (a.apart ap), fun p n => b.pers p (a.pers p n), b.own.trans a.own⟩
theorem Adv.slots {Γ Γ' : SS} {σ σ' : St} {G H : Hp} (o : OwnSub Γ' σ' Γ σ) : Adv Γ σ G H Γ' σ' G H := ⟨Same.refl G, fun _ _ h _ _ => h, fun _ _ h _ => h, fun _ h => h, o⟩
theorem Adv.grow {Γ : SS} {σ : St} {G H G' H' : Hp} (g : Grow no1 G H G' H') : Adv Γ σ G H Γ σ G' H' :=
  ⟨g.ext, fun p o e _ n => g.frm p o e (fun z => z) n, fun p n e _ => g.prv p e n, g.pers, .refl⟩
/-- a new object is frozen behind it -/
theorem Adv.freeze {Γ Γ' : SS} {σ σ' : St} {G H G' H' : Hp} {a : Addr} {o : HO} (v : Adv Γ σ G H Γ' σ' G' H') (h0 : H a = none) (hG : G' a = none) : Adv Γ σ G H Γ' σ' (upd G' a o) H' :=
  ⟨v.same.trans (same_new hG), v.frm, fun p n e ap => by rw [upd_ne (fun z => n (by rw [z]; exact h0))]; exact v.prv p n e ap, v.pers, v.own⟩
/-- an object just made, or taken over: nobody else has it -/
structure OwnAt (K : PySem.W.Frag) (En : Ent) (Γ : SS) (G : Hp) (σ : St) (H : Hp) (a : Addr) (c : OC) : Prop where
  obj : ∃ o, H a = some o ∧ CRel K G o c
  nG : G a = none
  nE : En.H a = none
  ap : Apart Γ σ a
section
variable {K : PySem.W.Frag} {En : Ent} {Γ Γ' : SS} {G G' : Hp} {σ : St} {H H' : Hp} {i : Nat} {a : Addr} {c : OC}
theorem OwnAt.set (w : OwnAt K En Γ G σ H a c) (r : Rl K En Γ G σ H) : Rl K En (Γ.set i (.own c)) G (σ.set i (some (V.ref a))) H := by
  obtain ⟨o, h1, h2⟩ := w.obj
  exact r.set ⟨a, o, rfl, h1, h2, w.nG, w.nE⟩ fun b e _ => by cases e; exact w.ap
theorem OwnAt.freeze {xs : List PD} (w : OwnAt K En Γ G σ H a (.lst xs)) (r : Rl K En Γ G σ H) : ∃ o, Rl K En Γ (upd G a o) σ H ∧ Rp K (upd G a o) (.ref a) (.list xs) := by
  obtain ⟨o, h1, h2⟩ := w.obj
  obtain ⟨vs, rfl, h7, hz⟩ := h2.lst_inv
  exact ⟨.lst vs, r.freeze h1 (fun ps e => by cases e) w.nG w.nE w.ap, .lst upd_same (h7.up (same_new w.nG)) hz⟩
theorem OwnAt.new {p : Addr} {o : HO} (r : Rl K En Γ G σ H) (hp : H p = none) (h : CRel K G o c) : OwnAt K En Γ G σ (upd H p o) p c :=
  ⟨⟨o, upd_same, h⟩, r.free hp, r.freeE hp, r.apart hp⟩
/-- the slot's own list, frozen -/
theorem Rl.freezeSlot {xs : List PD} (r : Rl K En Γ G σ H) (h : Γ[i]? = some (.own (.lst xs))) : ∃ a G', σ[i]? = some (some (V.ref a)) ∧ Adv Γ σ G H (Γ.set i (.d (.list xs))) σ G' H ∧ Rp K G' (.ref a) (.list xs) ∧ Rl K En (Γ.set i (.d (.list xs))) G' σ H := by
  obtain ⟨v, e1, a, o, e2, h1, h2, h3, h4⟩ := r.slot i _ h
  subst e2
  obtain ⟨vs, rfl, h7, hz⟩ := h2.lst_inv
  -- the slot is first forgotten
  have r1 : Rl K En (Γ.set i .u) G σ H := r.recast e1 trivial (fun z => Bool.noConfusion z)
  have ap : Apart (Γ.set i .u) σ a := fun j cj e o z => by
    by_cases hj : i = j
    · subst hj
      have hl : i < Γ.length := by
        by_cases q : i < Γ.length
        · exact q
        · rw [List.getElem?_eq_none (by simpa using q)] at e; cases e
      rw [List.getElem?_set_self hl] at e
      cases e
      cases o
    · rw [List.getElem?_set_ne hj] at e
      exact r.dis i j _ cj a hj h e rfl o e1 z
  have r2 := r1.freeze h1 (fun ps e => by cases e) h3 h4 ap
  have hp : Rp K (upd G a (.lst vs)) (.ref a) (.list xs) := .lst upd_same (h7.up (same_new h3)) hz
  have r3 := r2.recast (c := .d (.list xs)) e1 ⟨_, rfl, hp⟩ (fun z => Bool.noConfusion z)
  rw [List.set_set] at r3
  refine ⟨a, _, e1, ⟨same_new h3, fun p u e _ _ => e, fun p n e ap => ?_, fun p n => n, fun j cj e o => ?_⟩, hp, r3⟩
  · rw [upd_ne (fun z => ap i _ h rfl (by rw [e1, z]))]
    exact e
  · by_cases hj : i = j
    · subst hj
      exact ⟨⟨_, h, rfl⟩, rfl⟩
    · rw [List.getElem?_set_ne hj] at e
      exact ⟨⟨cj, e, o⟩, rfl⟩
theorem OwnAt.adv {σ' : St} (w : OwnAt K En Γ G σ H a c) (v : Adv Γ σ G H Γ' σ' G' H') : OwnAt K En Γ' G' σ' H' a c := by
  obtain ⟨o, h1, h2⟩ := w.obj
  exact ⟨⟨o, v.frm a o h1 w.ap h2.ntb, h2.up v.same⟩, v.prv a (by rw [h1]; simp) w.nG w.ap, w.nE, v.apart w.ap⟩
end
end DL

set_option Elab.async false
set_option linter.all false
set_option maxRecDepth 100000
set_option maxHeartbeats 4000000
/-! The data layer, part 2: expressions. -/
namespace DL
open PySem PySem.Spec PyProof.Rows L2

structure Dx where
  En : Ent
  W : WX
abbrev PDk := PD → SS → Prop
abbrev XKd := Exn → SS → Prop
abbrev TD := SS → PDk → XKd → Prop
abbrev TOd := SS → (OC → SS → Prop) → XKd → Prop
abbrev TTd := SS → (Bool → SS → Prop) → XKd → Prop
inductive Arg where
  | d (x : PD) | s (i : Nat)
abbrev TAd := SS → (List Arg → SS → Prop) → XKd → Prop
abbrev TLd := SS → (List PD → SS → Prop) → XKd → Prop

/-- an exception: its class by name, what it keeps -/
def RX (K : PySem.W.Frag) (mg : Str → Option Value) (G : Hp) (x : Exn) (cls : Value) (d : Option Addr) : Prop :=
  ∃ (C dd : Addr) (v : V), cls = .ref C ∧ mg x.cls = some (.ref C) ∧ d = some dd ∧ G dd = some (.xd [(("what" : Str), v)]) ∧ Rp K G v x.what
def XOk (X : Cx) (Z : Dx) (G : Hp) (σ : St) (E : XKd) : Prop := ∀ (x : Exn) (Γ' : SS) (G' : Hp) (cls : Value) (d : Option Addr) (H' : Hp), E x Γ' → Rl X.K Z.En Γ' G' σ H' → Same G G' → RX X.K X.mg G' x cls d → Z.W cls d σ H'
/-- .. where nothing that is no slot's own was changed -/
def XA (X : Cx) (Z : Dx) (Γ : SS) (G : Hp) (σ : St) (H : Hp) (E : XKd) : Prop := ∀ (x : Exn) (Γ' : SS) (G' : Hp) (cls : Value) (d : Option Addr) (H' : Hp), E x Γ' → Rl X.K Z.En Γ' G' σ H' → Adv Γ σ G H Γ' σ G' H' → RX X.K X.mg G' x cls d → Z.W cls d σ H'
theorem XOk.adv {X : Cx} {Z : Dx} {Γ : SS} {G H : Hp} {σ : St} {E : XKd} (h : XOk X Z G σ E) : XA X Z Γ G σ H E := fun x Γ' G' cls d H' e r q z => h x Γ' G' cls d H' e r q.same z
theorem XA.up {X : Cx} {Z : Dx} {Γ Γ1 : SS} {G G1 H H1 : Hp} {σ : St} {E : XKd} (h : XA X Z Γ G σ H E) (s : Adv Γ σ G H Γ1 σ G1 H1) : XA X Z Γ1 G1 σ H1 E := fun x Γ' G' cls d H' e r q z => h x Γ' G' cls d H' e r (s.trans q) z
theorem XOk.up {X : Cx} {Z : Dx} {G G1 : Hp} {σ : St} {E : XKd} (h : XOk X Z G σ E) (s : Same G G1) : XOk X Z G1 σ E := fun x Γ' G' cls d H' e r q z => h x Γ' G' cls d H' e r (s.trans q) z

def lfE (X : Cx) (Z : Dx) (t : TD) : TE := fun σ H Q => ∃ (Γ : SS) (G : Hp) (P : PDk) (E : XKd), Rl X.K Z.En Γ G σ H ∧ t Γ P E ∧
  (∀ (d : PD) (Γ' : SS) (G' : Hp) (v : V) (H' : Hp), P d Γ' → Rl X.K Z.En Γ' G' σ H' → Adv Γ σ G H Γ' σ G' H' → Rp X.K G' v d → Q v H') ∧ XA X Z Γ G σ H E
def lfO (X : Cx) (Z : Dx) (t : TOd) : TE := fun σ H Q => ∃ (Γ : SS) (G : Hp) (P : OC → SS → Prop) (E : XKd), Rl X.K Z.En Γ G σ H ∧ t Γ P E ∧
  (∀ (c : OC) (Γ' : SS) (G' : Hp) (a : Addr) (H' : Hp), P c Γ' → Rl X.K Z.En Γ' G' σ H' → Adv Γ σ G H Γ' σ G' H' → OwnAt X.K Z.En Γ' G' σ H' a c → H a = none → Q (.ref a) H') ∧ XA X Z Γ G σ H E
def lfT (X : Cx) (Z : Dx) (t : TTd) : TT := fun σ H Q => ∃ (Γ : SS) (G : Hp) (P : Bool → SS → Prop) (E : XKd), Rl X.K Z.En Γ G σ H ∧ t Γ P E ∧
  (∀ (b : Bool) (Γ' : SS) (G' : Hp) (H' : Hp), P b Γ' → Rl X.K Z.En Γ' G' σ H' → Adv Γ σ G H Γ' σ G' H' → Q b H') ∧ XA X Z Γ G σ H E
def lfL (X : Cx) (Z : Dx) (t : TLd) : TA := fun σ H Q => ∃ (Γ : SS) (G : Hp) (P : List PD → SS → Prop) (E : XKd), Rl X.K Z.En Γ G σ H ∧ t Γ P E ∧
  (∀ (ds : List PD) (Γ' : SS) (G' : Hp) (vs : List V) (H' : Hp), P ds Γ' → Rl X.K Z.En Γ' G' σ H' → Adv Γ σ G H Γ' σ G' H' → Rps X.K G' vs ds → Q vs H') ∧ XA X Z Γ G σ H E
/-- an argument: data, or the object that a slot owns -/
def ARel (K : PySem.W.Frag) (G : Hp) (σ : St) (v : V) : Arg → Prop
  | .d x => Rp K G v x
  | .s i => σ[i]? = some (some v)
inductive ARels (K : PySem.W.Frag) (G : Hp) (σ : St) : List V → List Arg → Prop
  | nil : ARels K G σ [] []
  | cons {v : V} {vs : List V} {a : Arg} {as : List Arg} (h : ARel K G σ v a) (t : ARels K G σ vs as) : ARels K G σ (v :: vs) (a :: as)
def lfA (X : Cx) (Z : Dx) (t : TAd) : TA := fun σ H Q => ∃ (Γ : SS) (G : Hp) (P : List Arg → SS → Prop) (E : XKd), Rl X.K Z.En Γ G σ H ∧ t Γ P E ∧
  (∀ (as : List Arg) (Γ' : SS) (G' : Hp) (vs : List V) (H' : Hp), P as Γ' → Rl X.K Z.En Γ' G' σ H' → Adv Γ σ G H Γ' σ G' H' → ARels X.K G' σ vs as → Q vs H') ∧ XA X Z Γ G σ H E

structure DE (X : Cx) (Z : Dx) (e : Expr) (t : TD) : Prop where
  pe : PE X e (lfE X Z t)
structure DO (X : Cx) (Z : Dx) (e : Expr) (t : TOd) : Prop where
  pe : PE X e (lfO X Z t)
structure DT (X : Cx) (Z : Dx) (e : Expr) (t : TTd) : Prop where
  pt : PT X e (lfT X Z t)
structure DW (X : Cx) (Z : Dx) (e : Expr) (t : TTd) : Prop where
  pw : PW X e (lfT X Z t)
structure DL' (X : Cx) (Z : Dx) (es : List Expr) (t : TLd) : Prop where
  pa : PA X es (lfL X Z t)
structure DA (X : Cx) (Z : Dx) (es : List Expr) (t : TAd) : Prop where
  pa : PA X es (lfA X Z t)

section
variable {X : Cx}
theorem PE.imp {e : Expr} {t t' : TE} (h : PE X e t) (i : ∀ σ H Q, t' σ H Q → t σ H Q) : PE X e t' := ⟨fun pins s σ H Q I hw => h.run pins s σ H Q I (i σ H Q hw)⟩
theorem PT.imp {e : Expr} {t t' : TT} (h : PT X e t) (i : ∀ σ H Q, t' σ H Q → t σ H Q) : PT X e t' := ⟨fun pins s σ H Q I hw => h.run pins s σ H Q I (i σ H Q hw)⟩
theorem PW.imp {e : Expr} {t t' : TT} (h : PW X e t) (i : ∀ σ H Q, t' σ H Q → t σ H Q) : PW X e t' := ⟨fun w pins s σ H Q I hw => h.run w pins s σ H Q I (i σ H Q hw)⟩
theorem PA.imp {e : List Expr} {t t' : TA} (h : PA X e t) (i : ∀ σ H Q, t' σ H Q → t σ H Q) : PA X e t' := ⟨fun p pins s σ H Q I hw => h.run p pins s σ H Q I (i σ H Q hw)⟩
theorem PS.imp {e : Stmt} {t t' : TS} (h : PS X e t) (i : ∀ D σ H, t' D σ H → t D σ H) : PS X e t' := ⟨fun pins s σ H D I hw => h.run pins s σ H D I (i D σ H hw)⟩
theorem PSs.imp {e : List Stmt} {t t' : TS} (h : PSs X e t) (i : ∀ D σ H, t' D σ H → t D σ H) : PSs X e t' := ⟨fun pins s σ H D I hw => h.run pins s σ H D I (i D σ H hw)⟩
end

/-! ### a step of the abstract heaps: nothing, or one new frozen object -/
def Step (G H G' H' : Hp) : Prop := (G' = G ∧ H' = H) ∨ ∃ (p : Addr) (o : HO), H p = none ∧ (∀ ps, o ≠ HO.tbl ps) ∧ G' = upd G p o ∧ H' = upd H p o
theorem Step.rfl' {G H : Hp} : Step G H G H := .inl ⟨rfl, rfl⟩
theorem Step.new {G H : Hp} {p : Addr} {o : HO} (hp : H p = none) (ho : ∀ ps, o ≠ .tbl ps) : Step G H (upd G p o) (upd H p o) := .inr ⟨p, o, hp, ho, rfl, rfl⟩
theorem Step.same {G H G' H' : Hp} (st : Step G H G' H') (s : Same G H) : Same G G' := by
  rcases st with ⟨rfl, _⟩ | ⟨p, o, hp, _, rfl, _⟩
  · exact Same.refl _
  · exact same_new (s.free hp)
theorem Rl.stp {K : PySem.W.Frag} {En : Ent} {Γ : SS} {G G' : Hp} {σ : St} {H H' : Hp} (r : Rl K En Γ G σ H) (st : Step G H G' H') : Rl K En Γ G' σ H' := by
  rcases st with ⟨rfl, rfl⟩ | ⟨p, o, hp, ho, rfl, rfl⟩
  · exact r
  · exact r.alloc hp ho
theorem Adv.step {K : PySem.W.Frag} {En : Ent} {Γ : SS} {G G' : Hp} {σ : St} {H H' : Hp} (r : Rl K En Γ G σ H) (st : Step G H G' H') : Adv Γ σ G H Γ σ G' H' := by
  rcases st with ⟨rfl, rfl⟩ | ⟨p, o, hp, ho, rfl, rfl⟩
  · exact .refl
  · exact .grow (Grow.alloc r.sub r.ntb hp ho)
theorem ntup {xs : List V} : ∀ ps, HO.tup xs ≠ .tbl ps := fun ps e => by cases e
theorem nlst {xs : List V} : ∀ ps, HO.lst xs ≠ .tbl ps := fun ps e => by cases e

/-! ### operations by values -/
abbrev F2 := PD → PD → (PD → Prop) → Prop
abbrev F1 := PD → (PD → Prop) → Prop
abbrev FL := List PD → (PD → Prop) → Prop
def V2 (K : PySem.W.Frag) (r : R2) (f : F2) : Prop := ∀ (G H : Hp) (x y : V) (d e : PD) (k : PD → Prop) (Q : VK), Same G H → Rp K G x d → Rp K G y e → f d e k → (∀ (z : PD) (G' H' : Hp) (v : V), k z → Step G H G' H' → Rp K G' v z → Q v H') → r x y H Q
def V1 (K : PySem.W.Frag) (r : V → Hp → VK → Prop) (f : F1) : Prop := ∀ (G H : Hp) (x : V) (d : PD) (k : PD → Prop) (Q : VK), Same G H → Rp K G x d → f d k → (∀ (z : PD) (G' H' : Hp) (v : V), k z → Step G H G' H' → Rp K G' v z → Q v H') → r x H Q
def VL (K : PySem.W.Frag) (r : List V → Hp → VK → Prop) (f : FL) : Prop := ∀ (G H : Hp) (xs : List V) (ds : List PD) (k : PD → Prop) (Q : VK), Same G H → Rps K G xs ds → f ds k → (∀ (z : PD) (G' H' : Hp) (v : V), k z → Step G H G' H' → Rp K G' v z → Q v H') → r xs H Q
theorem V2.or {K : PySem.W.Frag} {r r' : R2} {f f' : F2} (h : V2 K r f) (h' : V2 K r' f') : V2 K (fun x y H Q => r x y H Q ∨ r' x y H Q) (fun d e k => f d e k ∨ f' d e k) :=
  fun G H x y d e k Q s p q hf hk => hf.elim (fun z => .inl (h G H x y d e k Q s p q z hk)) fun z => .inr (h' G H x y d e k Q s p q z hk)

@[simp] def dC (d : PD) : TD := fun Γ P _ => P d Γ
@[simp] def d2 (f : F2) (ta tb : TD) : TD := fun Γ P E => ta Γ (fun d Γ1 => tb Γ1 (fun e Γ2 => f d e fun z => P z Γ2) E) E
@[simp] def d1 (f : F1) (ta : TD) : TD := fun Γ P E => ta Γ (fun d Γ1 => f d fun z => P z Γ1) E
@[simp] def dL (f : FL) (ta : TLd) : TD := fun Γ P E => ta Γ (fun ds Γ1 => f ds fun z => P z Γ1) E
@[simp] def dNil : TLd := fun Γ P _ => P [] Γ
@[simp] def dCons (t : TD) (u : TLd) : TLd := fun Γ P E => t Γ (fun d Γ1 => u Γ1 (fun ds Γ2 => P (d :: ds) Γ2) E) E
@[simp] def tru : PD → Bool
  | .none => false
  | .bool b => b
  | .int i => i != 0
  | .str x => (x.length : Int) != 0
  | .list xs => !xs.isEmpty
  | .tuple xs => !xs.isEmpty
  | .dict _ => true
/-- a test whose value is a truth; a test by truth -/
@[simp] def dTst (t : TD) : TTd := fun Γ P E => t Γ (fun d Γ1 => match d with
  | .bool b => P b Γ1
  | _ => False) E
@[simp] def dTru (t : TD) : TTd := fun Γ P E => t Γ (fun d Γ1 => P (tru d) Γ1) E
@[simp] def dNot (t : TTd) : TTd := fun Γ P E => t Γ (fun b Γ1 => P (!b) Γ1) E
@[simp] def dAnd (t u : TTd) : TTd := fun Γ P E => t Γ (fun b Γ1 => if b = true then u Γ1 P E else P false Γ1) E
@[simp] def dOr (t u : TTd) : TTd := fun Γ P E => t Γ (fun b Γ1 => if b = true then P true Γ1 else u Γ1 P E) E
@[simp] def dAndV (t u : TD) : TD := fun Γ P E => t Γ (fun d Γ1 => if tru d = true then u Γ1 P E else P d Γ1) E
@[simp] def dOrV (t u : TD) : TD := fun Γ P E => t Γ (fun d Γ1 => if tru d = true then P d Γ1 else u Γ1 P E) E
@[simp] def dNotV (t : TD) : TD := fun Γ P E => t Γ (fun d Γ1 => P (.bool (!tru d)) Γ1) E
@[simp] def dIf (c : TTd) (t u : TD) : TD := fun Γ P E => c Γ (fun b Γ1 => if b = true then t Γ1 P E else u Γ1 P E) E
/-- low op thing op' high -/
@[simp] def dChain (f f' : F2) (ta tb tc : TD) : TD := fun Γ P E => ta Γ (fun a Γ1 => tb Γ1 (fun b Γ2 => f a b fun z => match z with
  | .bool true => tc Γ2 (fun c Γ3 => f' b c fun w => P w Γ3) E
  | .bool false => P (.bool false) Γ2
  | _ => False) E) E
@[simp] def dFrz (t : TOd) : TD := fun Γ P E => t Γ (fun c Γ1 => match c with
  | .lst xs => P (.list xs) Γ1
  | .dic _ => False) E

section
variable {X : Cx} {Z : Dx} {a b c e : Expr} {es : List Expr} {ta tb tc te : TD} {pos : Pos}
theorem de_c {d : PD} {v : V} (h : PE X e (tC v)) (hr : ∀ G, Rp X.K G v d) : DE X Z e (dC d) :=
  ⟨PE.imp h fun σ H Q ⟨Γ, G, P, E, r, t, k, x⟩ => k d Γ G v H t r .refl (hr G)⟩
theorem de_int {i : Int} {j : Nat} : DE X Z (.Constant (.int i) j pos) (dC (.int i)) := de_c pe_int fun _ => .int i
theorem de_bl {i : Bool} {j : Nat} : DE X Z (.Constant (.bool i) j pos) (dC (.bool i)) := de_c pe_bl fun _ => .bl i
theorem de_non {j : Nat} : DE X Z (.Constant .none j pos) (dC .none) := de_c pe_non fun _ => .non
theorem de_str {x : Str} {j : Nat} (h : (PyData.strOk x && decide (x.length ≤ sizeLine)) = true) : DE X Z (.Constant (.str x) j pos) (dC (.str x)) := de_c pe_str fun _ => by
  obtain ⟨h1, h2⟩ := Bool.and_eq_true_iff.mp h
  exact .str x h1 (of_decide_eq_true h2)
/-- a constant of the module -/
theorem de_glob {x : Str} {v : V} {u : Value} {d : PD} (hg : Gl X x) (hm : X.mg x = some u) (r : RelV v u) (hr : ∀ G, Rp X.K G v d) (hd : (x == ("__debug__" : Str)) = false := by decide) : DE X Z (.Name x pos) (dC d) := de_c (pe_glob hg hm r hd) hr
/-- a slot, as data; an own list is frozen -/
@[simp] def dVar (i : Nat) : TD := fun Γ P _ => match Γ[i]? with
  | some (.d x) => P x Γ
  | some (.own (.lst xs)) => P (.list xs) (Γ.set i (.d (.list xs)))
  | _ => False
theorem de_var {i : Nat} (h : PE X e (tVar i)) : DE X Z e (dVar i) := by
  refine ⟨PE.imp h fun σ H Q hh => ?_⟩
  obtain ⟨Γ, G, P, E, r, t, k, x⟩ := hh
  unfold dVar at t
  split at t
  · rename_i y e
    obtain ⟨v, e1, w, e2, hp⟩ := r.slot i _ e
    subst e2
    exact ⟨w, e1, k y Γ G w H t r .refl hp⟩
  · rename_i xs e
    obtain ⟨p, G', e1, sG, hp, r'⟩ := r.freezeSlot e
    exact ⟨_, e1, k _ _ G' _ H t r' sG hp⟩
  · exact t.elim
theorem DO.frz {t : TOd} (h : DO X Z e t) : DE X Z e (dFrz t) := by
  refine ⟨PE.imp h.pe fun σ H Q hh => ?_⟩
  obtain ⟨Γ, G, P, E, r, t, k, x⟩ := hh
  refine ⟨Γ, G, _, E, r, t, fun c Γ' G' p H' q r' s' w n0 => ?_, x⟩
  cases c with
  | lst xs =>
    obtain ⟨o, r2, p2⟩ := w.freeze r'
    exact k (.list xs) Γ' _ _ H' q r2 (s'.freeze n0 w.nG) p2
  | dic _ => exact q.elim
theorem de_op {op : Operator} {r : R2} {f : F2} (ho : OpR X (binaryOp op) r) (hv : V2 X.K r f) (ha : DE X Z a ta) (hb : DE X Z b tb) : DE X Z (.BinOp a op b pos) (d2 f ta tb) := by
  refine ⟨PE.imp (pe_op ho ha.pe hb.pe) fun σ H Q hh => ?_⟩
  obtain ⟨Γ, G, P, E, r, t, k, x⟩ := hh
  refine ⟨Γ, G, _, E, r, t, fun d Γ1 G1 v1 H1 q1 r1 s1 p1 => ⟨Γ1, G1, _, E, r1, q1, fun e Γ2 G2 v2 H2 q2 r2 s2 p2 => ?_, x.up s1⟩, x⟩
  exact hv G2 H2 v1 v2 d e _ Q r2.sub (p1.up s2.same) p2 q2 fun z G3 H3 v3 q3 st p3 => k z Γ2 G3 v3 H3 q3 (r2.stp st) ((s1.trans s2).trans (.step r2 st)) p3
theorem de_cmp {op : CmpOp} {r : R2} {f : F2} (ho : OpR X (compareOp op) r) (hv : V2 X.K r f) (ha : DE X Z a ta) (hb : DE X Z b tb) (hm : behindInMarks op b = false) : DE X Z (.Compare a [op] [b] pos) (d2 f ta tb) := by
  refine ⟨PE.imp (pe_cmpR ho ha.pe hb.pe hm) fun σ H Q hh => ?_⟩
  obtain ⟨Γ, G, P, E, r, t, k, x⟩ := hh
  refine ⟨Γ, G, _, E, r, t, fun d Γ1 G1 v1 H1 q1 r1 s1 p1 => ⟨Γ1, G1, _, E, r1, q1, fun e Γ2 G2 v2 H2 q2 r2 s2 p2 => ?_, x.up s1⟩, x⟩
  exact hv G2 H2 v1 v2 d e _ Q r2.sub (p1.up s2.same) p2 q2 fun z G3 H3 v3 q3 st p3 => k z Γ2 G3 v3 H3 q3 (r2.stp st) ((s1.trans s2).trans (.step r2 st)) p3
theorem de_un {op : UnaryOp} {r : V → Hp → VK → Prop} {f : F1} (ho : UnR X (unaryOp op) r) (hv : V1 X.K r f) (ha : DE X Z a ta) : DE X Z (.UnaryOp op a pos) (d1 f ta) := by
  refine ⟨PE.imp (pe_un ho ha.pe) fun σ H Q hh => ?_⟩
  obtain ⟨Γ, G, P, E, r, t, k, x⟩ := hh
  refine ⟨Γ, G, _, E, r, t, fun d Γ1 G1 v1 H1 q1 r1 s1 p1 => ?_, x⟩
  exact hv G1 H1 v1 d _ Q r1.sub p1 q1 fun z G3 H3 v3 q3 st p3 => k z Γ1 G3 v3 H3 q3 (r1.stp st) (s1.trans (.step r1 st)) p3
/-- a subscript -/
theorem de_ix {r : R2} {f : F2} (hr : IxR X r) (hv : V2 X.K r f) (ha : DE X Z a ta) (hb : DE X Z b tb) (hs : PlainIx b) : DE X Z (.Subscript a b pos) (d2 f ta tb) := by
  refine ⟨PE.imp (pe_ix hr ha.pe hb.pe hs) fun σ H Q hh => ?_⟩
  obtain ⟨Γ, G, P, E, r, t, k, x⟩ := hh
  refine ⟨Γ, G, _, E, r, t, fun d Γ1 G1 v1 H1 q1 r1 s1 p1 => ⟨Γ1, G1, _, E, r1, q1, fun e Γ2 G2 v2 H2 q2 r2 s2 p2 => ?_, x.up s1⟩, x⟩
  exact hv G2 H2 v1 v2 d e _ Q r2.sub (p1.up s2.same) p2 q2 fun z G3 H3 v3 q3 st p3 => k z Γ2 G3 v3 H3 q3 (r2.stp st) ((s1.trans s2).trans (.step r2 st)) p3
/-! lists of expressions -/
theorem dl_nil : DL' X Z [] dNil := ⟨PA.imp pa_nil fun σ H Q ⟨Γ, G, P, E, r, t, k, x⟩ => k [] Γ G [] H t r .refl .nil⟩
theorem dl_cons {t : TLd} (ha : DE X Z e te) (hr : DL' X Z es t) (hs : starEach (e :: es) X.env = (false, eval e X.env) :: starEach es X.env := by rfl) : DL' X Z (e :: es) (dCons te t) := by
  refine ⟨PA.imp (pa_cons ha.pe hr.pa hs) fun σ H Q hh => ?_⟩
  obtain ⟨Γ, G, P, E, r, t, k, x⟩ := hh
  refine ⟨Γ, G, _, E, r, t, fun d Γ1 G1 v1 H1 q1 r1 s1 p1 => ⟨Γ1, G1, _, E, r1, q1, fun ds Γ2 G2 vs H2 q2 r2 s2 p2 => ?_, x.up s1⟩, x⟩
  exact k (d :: ds) Γ2 G2 (v1 :: vs) H2 q2 r2 (s1.trans s2) (.cons (p1.up s2.same) p2)
@[simp] def daNil : TAd := fun Γ P _ => P [] Γ
@[simp] def daD (t : TD) (u : TAd) : TAd := fun Γ P E => t Γ (fun d Γ1 => u Γ1 (fun as Γ2 => P (.d d :: as) Γ2) E) E
def daS (i : Nat) (u : TAd) : TAd := fun Γ P E => u Γ (fun as Γ2 => P (.s i :: as) Γ2) E
theorem ARel.up {K : PySem.W.Frag} {G G' : Hp} {σ : St} {v : V} {a : Arg} (h : ARel K G σ v a) (s : Same G G') : ARel K G' σ v a := by
  cases a with
  | d x => exact Rp.up h s
  | s i => exact h
theorem da_nil : DA X Z [] daNil := ⟨PA.imp pa_nil fun σ H Q ⟨Γ, G, P, E, r, t, k, x⟩ => k [] Γ G [] H t r .refl .nil⟩
theorem da_d {t : TAd} (ha : DE X Z e te) (hr : DA X Z es t) (hs : starEach (e :: es) X.env = (false, eval e X.env) :: starEach es X.env := by rfl) : DA X Z (e :: es) (daD te t) := by
  refine ⟨PA.imp (pa_cons ha.pe hr.pa hs) fun σ H Q hh => ?_⟩
  obtain ⟨Γ, G, P, E, r, t, k, x⟩ := hh
  refine ⟨Γ, G, _, E, r, t, fun d Γ1 G1 v1 H1 q1 r1 s1 p1 => ⟨Γ1, G1, _, E, r1, q1, fun ds Γ2 G2 vs H2 q2 r2 s2 p2 => ?_, x.up s1⟩, x⟩
  exact k (.d d :: ds) Γ2 G2 (v1 :: vs) H2 q2 r2 (s1.trans s2) (.cons (p1.up s2.same) p2)
/-- a slot that owns its object, handed on; its value must be known to the slots -/
@[simp] def holdsObj (Γ : SS) (i : Nat) : Prop := match Γ[i]? with
  | some (.own _) => True
  | some (.io _) => True
  | _ => False
@[simp] def daSo (i : Nat) (u : TAd) : TAd := fun Γ P E => holdsObj Γ i ∧ u Γ (fun as Γ2 => P (.s i :: as) Γ2) E
theorem Rl.val {K : PySem.W.Frag} {En : Ent} {Γ : SS} {G : Hp} {σ : St} {H : Hp} {i : Nat} (r : Rl K En Γ G σ H) (h : holdsObj Γ i) : ∃ a, σ[i]? = some (some (V.ref a)) := by
  unfold holdsObj at h
  split at h
  · rename_i c e
    obtain ⟨v, e1, a, o, e2, _⟩ := r.slot i _ e
    subst e2
    exact ⟨a, e1⟩
  · rename_i c e
    obtain ⟨v, e1, a, o, e2, _⟩ := r.slot i _ e
    subst e2
    exact ⟨a, e1⟩
  · exact h.elim
theorem da_s {t : TAd} {i : Nat} (ha : PE X e (tVar i)) (hr : DA X Z es t) (hs : starEach (e :: es) X.env = (false, eval e X.env) :: starEach es X.env := by rfl) : DA X Z (e :: es) (daSo i t) := by
  refine ⟨PA.imp (pa_cons ha hr.pa hs) fun σ H Q hh => ?_⟩
  obtain ⟨Γ, G, P, E, r, ⟨h0, t⟩, k, x⟩ := hh
  obtain ⟨a, ea⟩ := r.val h0
  refine ⟨_, ea, Γ, G, _, E, r, t, fun ds Γ2 G2 vs H2 q2 r2 s2 p2 => ?_, x⟩
  exact k (.s i :: ds) Γ2 G2 _ H2 q2 r2 s2 (.cons ea p2)
/-! displays -/
@[simp] def dTup (t : TLd) : TD := fun Γ P E => t Γ (fun ds Γ1 => ds.length ≤ sizeLine ∧ P (.tuple ds) Γ1) E
theorem de_tup {x1} {t : TLd} (h : DL' X Z es t) : DE X Z (.Tuple es x1 pos) (dTup t) := by
  refine ⟨PE.imp (pe_tup h.pa) fun σ H Q hh => ?_⟩
  obtain ⟨Γ, G, P, E, r, t, k, x⟩ := hh
  refine ⟨Γ, G, _, E, r, t, fun ds Γ1 G1 vs H1 ⟨hz, q1⟩ r1 s1 p1 => ⟨by rw [p1.length]; exact hz, fun p hp => ?_⟩, x⟩
  exact k (.tuple ds) Γ1 _ _ _ q1 (r1.alloc hp ntup) (s1.trans (.grow (Grow.alloc r1.sub r1.ntb hp ntup))) (.tup (.of upd_same) (p1.up (same_new (r1.free hp))) hz)
@[simp] def dLst (t : TLd) : TOd := fun Γ P E => t Γ (fun ds Γ1 => ds.length ≤ sizeLine ∧ P (.lst ds) Γ1) E
theorem do_lst {t : TLd} (h : DL' X Z es t) : DO X Z (.List es pos) (dLst t) := by
  refine ⟨PE.imp (pe_lst h.pa) fun σ H Q hh => ?_⟩
  obtain ⟨Γ, G, P, E, r, t, k, x⟩ := hh
  refine ⟨Γ, G, _, E, r, t, fun ds Γ1 G1 vs H1 ⟨hz, q1⟩ r1 s1 p1 => ⟨by rw [p1.length]; exact hz, fun p hp => ?_⟩, x⟩
  exact k (.lst ds) Γ1 G1 p _ q1 (r1.fresh hp) (s1.trans (.grow (Grow.fresh r1.sub r1.ntb hp))) (OwnAt.new r1 hp (.lst p1 hz)) (by
    cases e : H p with
    | none => rfl
    | some o => exact absurd hp (s1.pers p (by rw [e]; simp)))
/-! tests -/
theorem dt_cmp {op : CmpOp} {r : R2} {f : F2} (ho : OpR X (compareOp op) r) (hv : V2 X.K r f) (ha : DE X Z a ta) (hb : DE X Z b tb) (hm : behindInMarks op b = false) : DT X Z (.Compare a [op] [b] pos) (dTst (d2 f ta tb)) := by
  refine ⟨PT.imp (pt_cmpR ho ha.pe hb.pe hm) fun σ H Q hh => ?_⟩
  obtain ⟨Γ, G, P, E, r, t, k, x⟩ := hh
  refine ⟨Γ, G, _, E, r, t, fun d Γ1 G1 v1 H1 q1 r1 s1 p1 => ⟨Γ1, G1, _, E, r1, q1, fun e Γ2 G2 v2 H2 q2 r2 s2 p2 => ?_, x.up s1⟩, x⟩
  refine hv G2 H2 v1 v2 d e _ _ r2.sub (p1.up s2.same) p2 q2 fun z G3 H3 v3 q3 st p3 => ?_
  cases z with
  | bool z => exact ⟨z, p3.bl_inv, k z Γ2 G3 H3 q3 (r2.stp st) ((s1.trans s2).trans (.step r2 st))⟩
  | _ => exact q3.elim
theorem sqL_of {K : PySem.W.Frag} {G H : Hp} {p : Addr} {xs : List V} (h : G p = some (.lst xs)) (s : Same G H) : SqL K H p xs := .inl (.inl (s _ _ h))
theorem isEmpty_rps {K : PySem.W.Frag} {G : Hp} {vs : List V} {ds : List PD} (h : Rps K G vs ds) : vs.isEmpty = ds.isEmpty := by
  cases h <;> rfl
theorem tru_of {K : PySem.W.Frag} {G H : Hp} {v : V} {d : PD} (s : Same G H) (h : Rp K G v d) : TruV K v H (tru d) := by
  cases h with
  | non => rfl
  | bl b => rfl
  | int i => rfl
  | str x _ hl => exact ⟨hl, rfl⟩
  | lst h t => exact .inl ⟨_, sqL_of h s, by rw [isEmpty_rps t]; rfl⟩
  | tup h t => exact .inr (.inl ⟨_, sqT_mono s h, by rw [isEmpty_rps t]; rfl⟩)
theorem dt_tru (ha : DE X Z a ta) (he : ∀ whole, isTrue a X.env whole = (do let v ← whole; standAt a.pos; holding [v] (PySem.truthy v)) := by intro _; rfl) : DT X Z a (dTru ta) := by
  refine ⟨PT.imp (pt_truth ha.pe he) fun σ H Q hh => ?_⟩
  obtain ⟨Γ, G, P, E, r, t, k, x⟩ := hh
  exact ⟨Γ, G, _, E, r, t, fun d Γ1 G1 v1 H1 q1 r1 s1 p1 => ⟨_, tru_of r1.sub p1, k _ Γ1 G1 H1 q1 r1 s1⟩, x⟩
theorem dt_not {t : TTd} (h : DT X Z a t) : DT X Z (.UnaryOp .Not a pos) (dNot t) := by
  refine ⟨PT.imp (pt_not h.pt) fun σ H Q hh => ?_⟩
  obtain ⟨Γ, G, P, E, r, t, k, x⟩ := hh
  exact ⟨Γ, G, _, E, r, t, fun b Γ1 G1 H1 q1 r1 s1 => k _ Γ1 G1 H1 q1 r1 s1, x⟩
theorem dw_and1 {t : TTd} (h : DT X Z a t) : DW X Z (.BoolOp .And [a] pos) t := ⟨pw_and1 h.pt⟩
theorem dw_or1 {t : TTd} (h : DT X Z a t) : DW X Z (.BoolOp .Or [a] pos) t := ⟨pw_or1 h.pt⟩
theorem dw_and {rest : List Expr} {t u : TTd} (h : DT X Z a t) (h2 : DW X Z (.BoolOp .And (b :: rest) pos) u) : DW X Z (.BoolOp .And (a :: b :: rest) pos) (dAnd t u) := by
  refine ⟨PW.imp (pw_and h.pt h2.pw) fun σ H Q hh => ?_⟩
  obtain ⟨Γ, G, P, E, r, t, k, x⟩ := hh
  refine ⟨Γ, G, _, E, r, t, fun b Γ1 G1 H1 q1 r1 s1 => ?_, x⟩
  cases b with
  | true =>
    rw [if_pos rfl] at q1 ⊢
    exact ⟨Γ1, G1, P, E, r1, q1, fun b Γ2 G2 H2 q2 r2 s2 => k b Γ2 G2 H2 q2 r2 (s1.trans s2), x.up s1⟩
  | false => exact k _ Γ1 G1 H1 q1 r1 s1
theorem dw_or {rest : List Expr} {t u : TTd} (h : DT X Z a t) (h2 : DW X Z (.BoolOp .Or (b :: rest) pos) u) : DW X Z (.BoolOp .Or (a :: b :: rest) pos) (dOr t u) := by
  refine ⟨PW.imp (pw_or h.pt h2.pw) fun σ H Q hh => ?_⟩
  obtain ⟨Γ, G, P, E, r, t, k, x⟩ := hh
  refine ⟨Γ, G, _, E, r, t, fun b Γ1 G1 H1 q1 r1 s1 => ?_, x⟩
  cases b with
  | false =>
    rw [if_neg Bool.false_ne_true] at q1 ⊢
    exact ⟨Γ1, G1, P, E, r1, q1, fun b Γ2 G2 H2 q2 r2 s2 => k b Γ2 G2 H2 q2 r2 (s1.trans s2), x.up s1⟩
  | true => exact k _ Γ1 G1 H1 q1 r1 s1
theorem DW.dt {t : TTd} (h : DW X Z a t) : DT X Z a t := ⟨h.pw.pt⟩
/-! and, or, not as values -/
theorem de_one {op} {t : TD} (h : DE X Z a t) : DE X Z (.BoolOp op [a] pos) t := ⟨pe_one h.pe⟩
theorem de_and {rest : List Expr} {t u : TD} (h : DE X Z a t) (h2 : DE X Z (.BoolOp .And (b :: rest) pos) u) : DE X Z (.BoolOp .And (a :: b :: rest) pos) (dAndV t u) := by
  refine ⟨PE.imp (pe_andT h.pe h2.pe) fun σ H Q hh => ?_⟩
  obtain ⟨Γ, G, P, E, r, t, k, x⟩ := hh
  refine ⟨Γ, G, _, E, r, t, fun d Γ1 G1 v1 H1 q1 r1 s1 p1 => ⟨_, tru_of r1.sub p1, ?_⟩, x⟩
  cases hb : tru d with
  | true =>
    rw [hb, if_pos rfl] at q1
    rw [if_pos rfl]
    exact ⟨Γ1, G1, P, E, r1, q1, fun b Γ2 G2 v H2 q2 r2 s2 p2 => k b Γ2 G2 v H2 q2 r2 (s1.trans s2) p2, x.up s1⟩
  | false =>
    rw [hb, if_neg Bool.false_ne_true] at q1
    rw [if_neg Bool.false_ne_true]
    exact k _ Γ1 G1 v1 H1 q1 r1 s1 p1
theorem de_or {rest : List Expr} {t u : TD} (h : DE X Z a t) (h2 : DE X Z (.BoolOp .Or (b :: rest) pos) u) : DE X Z (.BoolOp .Or (a :: b :: rest) pos) (dOrV t u) := by
  refine ⟨PE.imp (pe_orT h.pe h2.pe) fun σ H Q hh => ?_⟩
  obtain ⟨Γ, G, P, E, r, t, k, x⟩ := hh
  refine ⟨Γ, G, _, E, r, t, fun d Γ1 G1 v1 H1 q1 r1 s1 p1 => ⟨_, tru_of r1.sub p1, ?_⟩, x⟩
  cases hb : tru d with
  | false =>
    rw [hb, if_neg Bool.false_ne_true] at q1
    rw [if_neg Bool.false_ne_true]
    exact ⟨Γ1, G1, P, E, r1, q1, fun b Γ2 G2 v H2 q2 r2 s2 p2 => k b Γ2 G2 v H2 q2 r2 (s1.trans s2) p2, x.up s1⟩
  | true =>
    rw [hb, if_pos rfl] at q1
    rw [if_pos rfl]
    exact k _ Γ1 G1 v1 H1 q1 r1 s1 p1
theorem de_not {t : TD} (h : DE X Z a t) : DE X Z (.UnaryOp .Not a pos) (dNotV t) := by
  refine ⟨PE.imp (pe_notT h.pe) fun σ H Q hh => ?_⟩
  obtain ⟨Γ, G, P, E, r, t, k, x⟩ := hh
  exact ⟨Γ, G, _, E, r, t, fun d Γ1 G1 v1 H1 q1 r1 s1 p1 => ⟨_, tru_of r1.sub p1, k _ Γ1 G1 _ H1 q1 r1 s1 (.bl _)⟩, x⟩
theorem de_if {tt : TTd} (hc : DT X Z c tt) (ha : DE X Z a ta) (hb : DE X Z b tb) : DE X Z (.IfExp c a b pos) (dIf tt ta tb) := by
  refine ⟨PE.imp (pe_ifExp hc.pt ha.pe hb.pe) fun σ H Q hh => ?_⟩
  obtain ⟨Γ, G, P, E, r, t, k, x⟩ := hh
  refine ⟨Γ, G, _, E, r, t, fun b Γ1 G1 H1 q1 r1 s1 => ?_, x⟩
  cases b with
  | true =>
    rw [if_pos rfl] at q1 ⊢
    exact ⟨Γ1, G1, P, E, r1, q1, fun b Γ2 G2 v H2 q2 r2 s2 p2 => k b Γ2 G2 v H2 q2 r2 (s1.trans s2) p2, x.up s1⟩
  | false =>
    rw [if_neg Bool.false_ne_true] at q1 ⊢
    exact ⟨Γ1, G1, P, E, r1, q1, fun b Γ2 G2 v H2 q2 r2 s2 p2 => k b Γ2 G2 v H2 q2 r2 (s1.trans s2) p2, x.up s1⟩
/-! calls of built-in names -/
theorem de_callB {id : String} {r : List V → Hp → VK → Prop} {f : FL} {t : TLd} {y : Str} {p : Pos} (hc : CallR X (.builtin id) r) (hv : VL X.K r f) (hg : Gl X y) (hm : X.mg y = none) (hb : bootBuiltins y = some (.builtin id)) (ha : DL' X Z (e :: es) t) (hn : y ≠ "__name__" := by decide) (hdb : (y == ("__debug__" : Str)) = false := by decide)
    (he : starEach (e :: es) X.env = (false, eval e X.env) :: starEach es X.env := by rfl) (hpl : (backTo pos (starEach es X.env)).any (·.1) = false := by rfl) : DE X Z (.Call (.Name y p) (e :: es) [] pos) (dL f t) := by
  refine ⟨PE.imp (pe_callB hc hg hm hb ha.pa hn hdb he hpl) fun σ H Q hh => ?_⟩
  obtain ⟨Γ, G, P, E, r, t, k, x⟩ := hh
  refine ⟨Γ, G, _, E, r, t, fun ds Γ1 G1 vs H1 q1 r1 s1 p1 => ?_, x⟩
  exact hv G1 H1 vs ds _ Q r1.sub p1 q1 fun z G3 H3 v3 q3 st p3 => k z Γ1 G3 v3 H3 q3 (r1.stp st) (s1.trans (.step r1 st)) p3
theorem de_callT {T : String} {r : List V → Hp → VK → Prop} {f : FL} {t : TLd} {y : Str} {p : Pos} (hc : CallR X (.type T) r) (hv : VL X.K r f) (hg : Gl X y) (hm : X.mg y = none) (hb : bootBuiltins y = some (.type T)) (ha : DL' X Z (e :: es) t) (hn : y ≠ "__name__" := by decide) (hdb : (y == ("__debug__" : Str)) = false := by decide)
    (he : starEach (e :: es) X.env = (false, eval e X.env) :: starEach es X.env := by rfl) (hpl : (backTo pos (starEach es X.env)).any (·.1) = false := by rfl) : DE X Z (.Call (.Name y p) (e :: es) [] pos) (dL f t) := by
  refine ⟨PE.imp (pe_callTy hc hg hm hb ha.pa hn hdb he hpl) fun σ H Q hh => ?_⟩
  obtain ⟨Γ, G, P, E, r, t, k, x⟩ := hh
  refine ⟨Γ, G, _, E, r, t, fun ds Γ1 G1 vs H1 q1 r1 s1 p1 => ?_, x⟩
  exact hv G1 H1 vs ds _ Q r1.sub p1 q1 fun z G3 H3 v3 q3 st p3 => k z Γ1 G3 v3 H3 q3 (r1.stp st) (s1.trans (.step r1 st)) p3
end
end DL

set_option Elab.async false
set_option linter.all false
set_option maxRecDepth 100000
set_option maxHeartbeats 4000000
/-! The data layer, part 3: statements, loops, comprehensions. -/
namespace DL
open PySem PySem.Spec PyProof.Rows L2

structure EndsD where
  nx : SS → Prop
  rt : Res → SS → Prop
  bk : SS → Prop := fun _ => False
  ct : SS → Prop := fun _ => False
  ex : XKd
abbrev TSd := EndsD → SS → Prop
def RRel (K : PySem.W.Frag) (En : Ent) (Γ : SS) (G : Hp) (σ : St) (H : Hp) (v : V) : Res → Prop
  | .d x => Rp K G v x
  | .o c => ∃ a, v = .ref a ∧ OwnAt K En Γ G σ H a c
structure Link (X : Cx) (Z : Dx) (G : Hp) (DD : EndsD) (D : Ends) : Prop where
  nx : ∀ (Γ' : SS) (G' : Hp) (σ' : St) (H' : Hp), DD.nx Γ' → Rl X.K Z.En Γ' G' σ' H' → Same G G' → D.nx σ' H'
  rt : ∀ (r : Res) (Γ' : SS) (G' : Hp) (σ' : St) (v : V) (H' : Hp), DD.rt r Γ' → Rl X.K Z.En Γ' G' σ' H' → Same G G' → RRel X.K Z.En Γ' G' σ' H' v r → D.rt v H'
  bk : ∀ (Γ' : SS) (G' : Hp) (σ' : St) (H' : Hp), DD.bk Γ' → Rl X.K Z.En Γ' G' σ' H' → Same G G' → D.bk σ' H'
  ct : ∀ (Γ' : SS) (G' : Hp) (σ' : St) (H' : Hp), DD.ct Γ' → Rl X.K Z.En Γ' G' σ' H' → Same G G' → D.ct σ' H'
  ex : ∀ σ', XOk X Z G σ' DD.ex
theorem Link.up {X : Cx} {Z : Dx} {G G1 : Hp} {DD : EndsD} {D : Ends} (l : Link X Z G DD D) (s : Same G G1) : Link X Z G1 DD D :=
  ⟨fun Γ G' σ H q r z => l.nx Γ G' σ H q r (s.trans z), fun e Γ G' σ v H q r z => l.rt e Γ G' σ v H q r (s.trans z), fun Γ G' σ H q r z => l.bk Γ G' σ H q r (s.trans z), fun Γ G' σ H q r z => l.ct Γ G' σ H q r (s.trans z), fun σ => (l.ex σ).up s⟩
def lfS (X : Cx) (Z : Dx) (t : TSd) : TS := fun D σ H => ∃ (Γ : SS) (G : Hp) (DD : EndsD), Rl X.K Z.En Γ G σ H ∧ t DD Γ ∧ Link X Z G DD D
structure DS (X : Cx) (Z : Dx) (st : Stmt) (t : TSd) : Prop where
  ps : PS X st (lfS X Z t)
structure DSs (X : Cx) (Z : Dx) (sts : List Stmt) (t : TSd) : Prop where
  ps : PSs X sts (lfS X Z t)
abbrev TGd := PD → SS → (SS → Prop) → Prop
abbrev TGsd := List PD → SS → (SS → Prop) → Prop
def lfG (X : Cx) (Z : Dx) (gs : List Nat) (g : TGd) : TG := fun v σ H Q => ∃ (Γ : SS) (G : Hp) (P : SS → Prop) (x : PD), Rl X.K Z.En Γ G σ H ∧ Rp X.K G v x ∧ g x Γ P ∧
  ∀ (Γ' : SS) (σ' : St), P Γ' → Rl X.K Z.En Γ' G σ' H → OwnSub Γ' σ' Γ σ → (σ'.length = σ.length ∧ ∀ j, j ∉ gs → σ'[j]? = σ[j]?) → Q σ' H
structure DG (X : Cx) (Z : Dx) (tg : Expr) (gs : List Nat) (g : TGd) : Prop where
  pg : PG X tg (lfG X Z gs g)
def lfGs (X : Cx) (Z : Dx) (gs : List Nat) (g : TGsd) : TGs := fun vs σ H Q => ∃ (Γ : SS) (G : Hp) (P : SS → Prop) (xs : List PD), Rl X.K Z.En Γ G σ H ∧ Rps X.K G vs xs ∧ g xs Γ P ∧
  ∀ (Γ' : SS) (σ' : St), P Γ' → Rl X.K Z.En Γ' G σ' H → OwnSub Γ' σ' Γ σ → (σ'.length = σ.length ∧ ∀ j, j ∉ gs → σ'[j]? = σ[j]?) → Q σ' H
structure DGs (X : Cx) (Z : Dx) (tgs : List Expr) (gs : List Nat) (g : TGsd) : Prop where
  pg : PGs X tgs (lfGs X Z gs g)

theorem PG.imp {X : Cx} {e : Expr} {t t' : TG} (h : PG X e t) (i : ∀ v σ H Q, t' v σ H Q → t v σ H Q) : PG X e t' := ⟨fun pins s σ H v u Q I r hw => h.run pins s σ H v u Q I r (i v σ H Q hw)⟩
theorem PGs.imp {X : Cx} {e : List Expr} {t t' : TGs} (h : PGs X e t) (i : ∀ v σ H Q, t' v σ H Q → t v σ H Q) : PGs X e t' := ⟨fun pins s σ H v u Q I r hw => h.run pins s σ H v u Q I r (i v σ H Q hw)⟩

/-! targets -/
@[simp] def gNm (i : Nat) : TGd := fun x Γ Q => Q (Γ.set i (.d x))
@[simp] def gTp (n : Nat) (t : TGsd) : TGd := fun x Γ Q => match x with
  | .tuple xs => xs.length = n ∧ t xs Γ Q
  | _ => False
@[simp] def gNi : TGsd := fun xs Γ Q => match xs with
  | [] => Q Γ
  | _ :: _ => False
@[simp] def gCo (t : TGd) (u : TGsd) : TGsd := fun xs Γ Q => match xs with
  | x :: r => t x Γ fun Γ' => u r Γ' Q
  | [] => False
section
variable {X : Cx} {Z : Dx} {e : Expr} {es : List Expr} {pos : Pos} {i : Nat} {gs gs' : List Nat}
theorem dg_nm {g : TG} (h : PG X e (gName i)) : DG X Z e [i] (gNm i) := by
  refine ⟨PG.imp h fun v σ H Q hh => ?_⟩
  obtain ⟨Γ, G, P, x, r, p, t, k⟩ := hh
  exact k _ _ t (r.setD p) .setD ⟨by simp, fun j hj => List.getElem?_set_ne (fun z => hj (by simp [z]))⟩
theorem dgs_nil : DGs X Z [] [] gNi := by
  refine ⟨PGs.imp pgs_nil fun v σ H Q hh => ?_⟩
  obtain ⟨Γ, G, P, xs, r, p, t, k⟩ := hh
  cases p with
  | nil => exact ⟨rfl, k _ _ t r .refl ⟨rfl, fun j _ => rfl⟩⟩
  | cons _ _ => exact t.elim
theorem dgs_cons {g : TGd} {u : TGsd} (h : DG X Z e gs g) (h2 : DGs X Z es gs' u) (hs : (assignEach (e :: es) X.env).map (·.2) = assign e X.env :: (assignEach es X.env).map (·.2) := by rfl) : DGs X Z (e :: es) (gs ++ gs') (gCo g u) := by
  refine ⟨PGs.imp (pgs_cons h.pg h2.pg hs) fun v σ H Q hh => ?_⟩
  obtain ⟨Γ, G, P, xs, r, p, t, k⟩ := hh
  cases p with
  | nil => exact t.elim
  | @cons v0 vs0 d0 ds0 p1 p2 =>
    refine ⟨v0, vs0, rfl, Γ, G, _, d0, r, p1, t, fun Γ1 σ1 q1 r1 o1 l1 => ⟨Γ1, G, _, ds0, r1, p2, q1, fun Γ2 σ2 q2 r2 o2 l2 => ?_⟩⟩
    exact k Γ2 σ2 q2 r2 (o2.trans o1) ⟨l2.1.trans l1.1, fun j hj => (l2.2 j fun z => hj (List.mem_append_right _ z)).trans (l1.2 j fun z => hj (List.mem_append_left _ z))⟩
theorem dg_tup {n k0 : Nat} {t : TGsd} (hc : X.calm = true) (h : DGs X Z es gs t) (hn : (assignEach es X.env).length = n := by rfl) (hst : (assignEach es X.env).findIdx? (·.1) = none := by rfl) : DG X Z (.Tuple es k0 pos) gs (gTp n t) := by
  refine ⟨PG.imp (pg_tup hc h.pg hn hst) fun v σ H Q hh => ?_⟩
  obtain ⟨Γ, G, P, x, r, p, t, k⟩ := hh
  unfold gTp at t
  split at t
  · rename_i xs
    obtain ⟨a, vs, ev, hq, hp, _⟩ := p.tup_inv
    exact ⟨a, vs, ev, sqT_mono r.sub hq, by rw [hp.length]; exact t.1, Γ, G, P, xs, r, hp, t.2, k⟩
  · exact t.elim
end

/-! statements -/
@[simp] def sNext : TSd := fun D Γ => D.nx Γ
@[simp] def sSeq (t u : TSd) : TSd := fun D Γ => t { D with nx := u D } Γ
@[simp] def sRet (te : TD) : TSd := fun D Γ => te Γ (fun x Γ1 => D.rt (.d x) Γ1) D.ex
@[simp] def sRetO (te : TOd) : TSd := fun D Γ => te Γ (fun c Γ1 => D.rt (.o c) Γ1) D.ex
@[simp] def sRetN : TSd := fun D Γ => D.rt (.d .none) Γ
@[simp] def sIf (c : TTd) (t u : TSd) : TSd := fun D Γ => c Γ (fun b Γ1 => if b = true then t D Γ1 else u D Γ1) D.ex
@[simp] def sExpr (te : TD) : TSd := fun D Γ => te Γ (fun _ Γ1 => D.nx Γ1) D.ex
@[simp] def sSet (i : Nat) (te : TD) : TSd := fun D Γ => te Γ (fun x Γ1 => D.nx (Γ1.set i (.d x))) D.ex
@[simp] def sSetO (i : Nat) (te : TOd) : TSd := fun D Γ => te Γ (fun c Γ1 => D.nx (Γ1.set i (.own c))) D.ex
@[simp] def sAsg (te : TD) (g : TGd) : TSd := fun D Γ => te Γ (fun x Γ1 => g x Γ1 D.nx) D.ex
section
variable {X : Cx} {Z : Dx} {e c : Expr} {st : Stmt} {sts : List Stmt} {te : TD} {t u : TSd} {pos : Pos} {i : Nat}
theorem dss_nil : DSs X Z [] sNext := ⟨PSs.imp pss_nil fun D σ H ⟨Γ, G, DD, r, t, l⟩ => l.nx Γ G σ H t r (Same.refl G)⟩
theorem dss_cons (h : DS X Z st t) (h2 : DSs X Z sts u) : DSs X Z (st :: sts) (sSeq t u) := by
  refine ⟨PSs.imp (pss_cons h.ps h2.ps) fun D σ H hh => ?_⟩
  obtain ⟨Γ, G, DD, r, t, l⟩ := hh
  exact ⟨Γ, G, _, r, t, ⟨fun Γ1 G1 σ1 H1 q1 r1 s1 => ⟨Γ1, G1, DD, r1, q1, l.up s1⟩, l.rt, l.bk, l.ct, l.ex⟩⟩
theorem dss_one (h : DS X Z st t) : DSs X Z [st] t := ⟨pss_one h.ps⟩
theorem ds_pass : DS X Z (.Pass pos) sNext := ⟨PS.imp ps_pass fun D σ H ⟨Γ, G, DD, r, t, l⟩ => l.nx Γ G σ H t r (Same.refl G)⟩
theorem ds_break : DS X Z (.Break pos) (fun D Γ => D.bk Γ) := ⟨PS.imp ps_break fun D σ H ⟨Γ, G, DD, r, t, l⟩ => l.bk Γ G σ H t r (Same.refl G)⟩
theorem ds_continue : DS X Z (.Continue pos) (fun D Γ => D.ct Γ) := ⟨PS.imp ps_continue fun D σ H ⟨Γ, G, DD, r, t, l⟩ => l.ct Γ G σ H t r (Same.refl G)⟩
theorem ds_doc {x : Str} {j : Nat} {p2 : Pos} : DS X Z (.Expr (.Constant (.str x) j pos) p2) sNext := ⟨PS.imp ps_doc fun D σ H ⟨Γ, G, DD, r, t, l⟩ => l.nx Γ G σ H t r (Same.refl G)⟩
theorem ds_ret (h : DE X Z e te) : DS X Z (.Return (some e) pos) (sRet te) := by
  refine ⟨PS.imp (ps_ret h.pe) fun D σ H hh => ?_⟩
  obtain ⟨Γ, G, DD, r, t, l⟩ := hh
  exact ⟨Γ, G, _, _, r, t, fun d Γ1 G1 v H1 q1 r1 s1 p1 => l.rt (.d d) Γ1 G1 σ v H1 q1 r1 s1.same p1, (l.ex σ).adv⟩
theorem ds_retO {to : TOd} (h : DO X Z e to) : DS X Z (.Return (some e) pos) (sRetO to) := by
  refine ⟨PS.imp (ps_ret h.pe) fun D σ H hh => ?_⟩
  obtain ⟨Γ, G, DD, r, t, l⟩ := hh
  exact ⟨Γ, G, _, _, r, t, fun c Γ1 G1 a H1 q1 r1 s1 w n0 => l.rt (.o c) Γ1 G1 σ _ H1 q1 r1 s1.same ⟨a, rfl, w⟩, (l.ex σ).adv⟩
/-- the slot's own object is handed out -/
@[simp] def sRetV (i : Nat) : TSd := fun D Γ => match Γ[i]? with
  | some (.own c) => D.rt (.o c) (Γ.set i .u)
  | _ => False
theorem ds_retV (h : PE X e (tVar i)) : DS X Z (.Return (some e) pos) (sRetV i) := by
  refine ⟨PS.imp (ps_ret h) fun D σ H hh => ?_⟩
  obtain ⟨Γ, G, DD, r, t, l⟩ := hh
  unfold sRetV at t
  split at t
  · rename_i c e
    obtain ⟨v, e1, a, o, e2, h1, h2, h3, h4⟩ := r.slot i _ e
    subst e2
    have r1 : Rl X.K Z.En (Γ.set i .u) G σ H := r.recast e1 trivial (fun z => Bool.noConfusion z)
    have ap : Apart (Γ.set i .u) σ a := fun j cj e' o' z => by
      by_cases hj : i = j
      · subst hj
        have hl : i < Γ.length := by
          by_cases q : i < Γ.length
          · exact q
          · rw [List.getElem?_eq_none (by simpa using q)] at e; cases e
        rw [List.getElem?_set_self hl] at e'
        cases e'
        cases o'
      · rw [List.getElem?_set_ne hj] at e'
        exact r.dis i j _ cj a hj e e' rfl o' e1 z
    exact ⟨_, e1, l.rt (.o c) _ G σ _ H t r1 (Same.refl G) ⟨a, rfl, ⟨o, h1, h2⟩, h3, h4, ap⟩⟩
  · exact t.elim
theorem ds_retN : DS X Z (.Return none pos) sRetN := ⟨PS.imp ps_retN fun D σ H ⟨Γ, G, DD, r, t, l⟩ => l.rt (.d .none) Γ G σ .non H t r (Same.refl G) .non⟩
theorem ds_if {a b : List Stmt} {tc : TTd} (hc : DT X Z c tc) (ha : DSs X Z a t) (hb : DSs X Z b u) : DS X Z (.If c a b pos) (sIf tc t u) := by
  refine ⟨PS.imp (ps_if hc.pt ha.ps hb.ps) fun D σ H hh => ?_⟩
  obtain ⟨Γ, G, DD, r, t, l⟩ := hh
  refine ⟨Γ, G, _, _, r, t, fun b Γ1 G1 H1 q1 r1 s1 => ?_, (l.ex σ).adv⟩
  cases b with
  | true =>
    rw [if_pos rfl] at q1 ⊢
    exact ⟨Γ1, G1, DD, r1, q1, l.up s1.same⟩
  | false =>
    rw [if_neg Bool.false_ne_true] at q1 ⊢
    exact ⟨Γ1, G1, DD, r1, q1, l.up s1.same⟩
theorem ds_expr (h : DE X Z e te) (hs : swapsWith e none pos.line X.env = pure false := by rfl) : DS X Z (.Expr e pos) (sExpr te) := by
  refine ⟨PS.imp (ps_expr h.pe hs) fun D σ H hh => ?_⟩
  obtain ⟨Γ, G, DD, r, t, l⟩ := hh
  exact ⟨Γ, G, _, _, r, t, fun d Γ1 G1 v H1 q1 r1 s1 p1 => l.nx Γ1 G1 σ H1 q1 r1 s1.same, (l.ex σ).adv⟩
theorem ds_set {x : Str} {pos' : Pos} (hN : X.N.Nodup) (hi : X.N[i]? = some x) (hx : Loc X.env.scope x) (he : DE X Z e te) (hs : swapsWith e (some (.Name x pos')) pos.line X.env = pure false := by rfl) (hf : X.fn x = true ∨ X.env.scope.names.lookup x = some .local := by first | exact .inl rfl | exact .inr rfl | assumption) :
    DS X Z (.Assign [.Name x pos'] e pos) (sSet i te) := by
  refine ⟨PS.imp (ps_set hN hi hx he.pe hs hf) fun D σ H hh => ?_⟩
  obtain ⟨Γ, G, DD, r, t, l⟩ := hh
  exact ⟨Γ, G, _, _, r, t, fun d Γ1 G1 v H1 q1 r1 s1 p1 => l.nx _ G1 _ H1 q1 (r1.setD p1) s1.same, (l.ex σ).adv⟩
theorem ds_setO {x : Str} {pos' : Pos} {to : TOd} (hN : X.N.Nodup) (hi : X.N[i]? = some x) (hx : Loc X.env.scope x) (he : DO X Z e to) (hs : swapsWith e (some (.Name x pos')) pos.line X.env = pure false := by rfl) (hf : X.fn x = true ∨ X.env.scope.names.lookup x = some .local := by first | exact .inl rfl | exact .inr rfl | assumption) :
    DS X Z (.Assign [.Name x pos'] e pos) (sSetO i to) := by
  refine ⟨PS.imp (ps_set hN hi hx he.pe hs hf) fun D σ H hh => ?_⟩
  obtain ⟨Γ, G, DD, r, t, l⟩ := hh
  exact ⟨Γ, G, _, _, r, t, fun c Γ1 G1 a H1 q1 r1 s1 w n0 => l.nx _ G1 _ H1 q1 (w.set r1) s1.same, (l.ex σ).adv⟩
theorem ds_asg {tg : Expr} {g : TGd} {gs : List Nat} (he : DE X Z e te) (hg : DG X Z tg gs g) (hs : swapsWithSole [tg] e pos.line X.env = pure false := by rfl) (hw : swappedStores [tg] e X.env = pure none := by rfl)
    (h1 : (assignEach [tg] X.env).map (·.2) = [assign tg X.env] := by rfl) : DS X Z (.Assign [tg] e pos) (sAsg te g) := by
  refine ⟨PS.imp (ps_asg he.pe hg.pg hs hw h1) fun D σ H hh => ?_⟩
  obtain ⟨Γ, G, DD, r, t, l⟩ := hh
  exact ⟨Γ, G, _, _, r, t, fun d Γ1 G1 v H1 q1 r1 s1 p1 => ⟨Γ1, G1, _, d, r1, p1, q1, fun Γ2 σ2 q2 r2 o2 l2 => l.nx Γ2 G1 σ2 H1 q2 r2 s1.same⟩, (l.ex σ).adv⟩
end

/-! results of several kinds, side by side: a, b = x, y -/
abbrev TRd := SS → (List Res → SS → Prop) → XKd → Prop
def OwnIn (b : Addr) (vs : List V) (rs : List Res) : Prop := ∃ (i : Nat) (c : OC), rs[i]? = some (.o c) ∧ vs[i]? = some (V.ref b)
inductive RRels (K : PySem.W.Frag) (En : Ent) (Γ : SS) (G : Hp) (σ : St) (H : Hp) : List V → List Res → Prop
  | nil : RRels K En Γ G σ H [] []
  | consD {v : V} {vs : List V} {x : PD} {rs : List Res} (h : Rp K G v x) (t : RRels K En Γ G σ H vs rs) : RRels K En Γ G σ H (v :: vs) (.d x :: rs)
  | consO {a : Addr} {vs : List V} {c : OC} {rs : List Res} (h : OwnAt K En Γ G σ H a c) (n : ∀ b, OwnIn b vs rs → b ≠ a) (t : RRels K En Γ G σ H vs rs) : RRels K En Γ G σ H (.ref a :: vs) (.o c :: rs)
def lfR (X : Cx) (Z : Dx) (t : TRd) : TA := fun σ H Q => ∃ (Γ : SS) (G : Hp) (P : List Res → SS → Prop) (E : XKd), Rl X.K Z.En Γ G σ H ∧ t Γ P E ∧
  (∀ (rs : List Res) (Γ' : SS) (G' : Hp) (vs : List V) (H' : Hp), P rs Γ' → Rl X.K Z.En Γ' G' σ H' → Adv Γ σ G H Γ' σ G' H' → RRels X.K Z.En Γ' G' σ H' vs rs → (∀ b, OwnIn b vs rs → H b = none) → Q vs H') ∧ XA X Z Γ G σ H E
structure DR (X : Cx) (Z : Dx) (es : List Expr) (t : TRd) : Prop where
  pa : PA X es (lfR X Z t)
@[simp] def drNil : TRd := fun Γ P _ => P [] Γ
@[simp] def drD (t : TD) (u : TRd) : TRd := fun Γ P E => t Γ (fun d Γ1 => u Γ1 (fun rs Γ2 => P (.d d :: rs) Γ2) E) E
@[simp] def drO (t : TOd) (u : TRd) : TRd := fun Γ P E => t Γ (fun c Γ1 => u Γ1 (fun rs Γ2 => P (.o c :: rs) Γ2) E) E
@[simp] def setR (Γ : SS) (i : Nat) : Res → SS
  | .d x => Γ.set i (.d x)
  | .o c => Γ.set i (.own c)
theorem none_back {Γ Γ' : SS} {σ σ' : St} {G H G' H' : Hp} {p : Addr} (v : Adv Γ σ G H Γ' σ' G' H') (h : H' p = none) : H p = none := by
  cases e : H p with
  | none => rfl
  | some o => exact absurd h (v.pers p (by rw [e]; simp))
section
variable {X : Cx} {Z : Dx} {e : Expr} {es : List Expr} {te : TD} {to : TOd} {u : TRd} {pos : Pos} {i j l : Nat}
theorem dr_nil : DR X Z [] drNil := ⟨PA.imp pa_nil fun σ H Q ⟨Γ, G, P, E, r, t, k, x⟩ => k [] Γ G [] H t r .refl .nil fun b ⟨i, c, e, _⟩ => by simp at e⟩
theorem dr_d (h : DE X Z e te) (h2 : DR X Z es u) (hs : starEach (e :: es) X.env = (false, eval e X.env) :: starEach es X.env := by rfl) : DR X Z (e :: es) (drD te u) := by
  refine ⟨PA.imp (pa_cons h.pe h2.pa hs) fun σ H Q hh => ?_⟩
  obtain ⟨Γ, G, P, E, r, t, k, x⟩ := hh
  refine ⟨Γ, G, _, E, r, t, fun d Γ1 G1 v1 H1 q1 r1 s1 p1 => ⟨Γ1, G1, _, E, r1, q1, fun rs Γ2 G2 vs H2 q2 r2 s2 p2 n2 => ?_, x.up s1⟩, x⟩
  refine k (.d d :: rs) Γ2 G2 (v1 :: vs) H2 q2 r2 (s1.trans s2) (.consD (p1.up s2.same) p2) fun b ⟨m, c, e1, e2⟩ => ?_
  cases m with
  | zero => simp at e1
  | succ m => exact none_back s1 (n2 b ⟨m, c, by simpa using e1, by simpa using e2⟩)
theorem dr_o (h : DO X Z e to) (h2 : DR X Z es u) (hs : starEach (e :: es) X.env = (false, eval e X.env) :: starEach es X.env := by rfl) : DR X Z (e :: es) (drO to u) := by
  refine ⟨PA.imp (pa_cons h.pe h2.pa hs) fun σ H Q hh => ?_⟩
  obtain ⟨Γ, G, P, E, r, t, k, x⟩ := hh
  refine ⟨Γ, G, _, E, r, t, fun c Γ1 G1 a H1 q1 r1 s1 w n0 => ⟨Γ1, G1, _, E, r1, q1, fun rs Γ2 G2 vs H2 q2 r2 s2 p2 n2 => ?_, x.up s1⟩, x⟩
  have na : ∀ b, OwnIn b vs rs → b ≠ a := fun b hb z => by
    have := n2 b hb
    obtain ⟨o, h1, _⟩ := w.obj
    rw [z, h1] at this
    cases this
  refine k (.o c :: rs) Γ2 G2 _ H2 q2 r2 (s1.trans s2) (.consO (w.adv s2) na p2) fun b ⟨m, c', e1, e2⟩ => ?_
  cases m with
  | zero =>
    simp at e2
    subst e2
    exact n0
  | succ m => exact none_back s1 (n2 b ⟨m, c', by simpa using e1, by simpa using e2⟩)
theorem apart_set {Γ : SS} {σ : St} {i : Nat} {c : SC} {v : V} {b : Addr} (h : Apart Γ σ b) (n : v ≠ .ref b) : Apart (Γ.set i c) (σ.set i (some v)) b := fun j cj e o z => by
  by_cases hj : i = j
  · subst hj
    by_cases hl : i < σ.length
    · rw [List.getElem?_set_self hl] at z
      exact n (by simpa using z)
    · rw [List.getElem?_eq_none (by simpa using hl)] at z
      cases z
  · rw [List.getElem?_set_ne hj] at e z
    exact h j cj e o z
theorem apart_setD {Γ : SS} {σ : St} {i : Nat} {x : PD} {v : V} {b : Addr} (h : Apart Γ σ b) : Apart (Γ.set i (.d x)) (σ.set i (some v)) b := OwnSub.setD.apart h
/-- results are stored one after another -/
theorem RRels.set1 {K : PySem.W.Frag} {En : Ent} {Γ : SS} {G : Hp} {σ : St} {H : Hp} {v : V} {vs : List V} {r : Res} {rs : List Res} (q : Rl K En Γ G σ H) (h : RRels K En Γ G σ H (v :: vs) (r :: rs)) :
    Rl K En (setR Γ i r) G (σ.set i (some v)) H ∧ RRels K En (setR Γ i r) G (σ.set i (some v)) H vs rs := by
  cases h with
  | @consD _ _ x0 _ h t =>
    refine ⟨q.setD h, ?_⟩
    have key : ∀ {vs rs}, RRels K En Γ G σ H vs rs → RRels K En (Γ.set i (.d x0)) G (σ.set i (some v)) H vs rs := by
      intro vs rs t
      induction t with
      | nil => exact .nil
      | consD h t ih => exact .consD h ih
      | consO h n t ih => exact .consO ⟨h.obj, h.nG, h.nE, apart_setD h.ap⟩ n ih
    exact key t
  | @consO a _ c _ h n t =>
    refine ⟨h.set q, ?_⟩
    have key : ∀ {vs rs}, RRels K En Γ G σ H vs rs → (∀ b, OwnIn b vs rs → b ≠ a) → RRels K En (Γ.set i (.own c)) G (σ.set i (some (.ref a))) H vs rs := by
      intro vs rs t
      induction t with
      | nil => exact fun _ => .nil
      | consD h t ih => exact fun n => .consD h (ih fun b ⟨m, c, e1, e2⟩ => n b ⟨m + 1, c, by simpa using e1, by simpa using e2⟩)
      | @consO a2 _ c2 _ h n2 t ih =>
        intro n
        refine .consO ⟨h.obj, h.nG, h.nE, apart_set h.ap fun z => ?_⟩ n2 (ih fun b ⟨m, c, e1, e2⟩ => n b ⟨m + 1, c, by simpa using e1, by simpa using e2⟩)
        have z' : a = a2 := V.ref.inj z
        exact n a2 ⟨0, c2, by simp, by simp⟩ z'.symm
    exact key t n
@[simp] def sPar (i j : Nat) (t : TRd) : TSd := fun D Γ => t Γ (fun rs Γ1 => match rs with
  | [r, q] => D.nx (setR (setR Γ1 i r) j q)
  | _ => False) D.ex
theorem ds_par {x y : Str} {a b : Expr} {t : TRd} {px py pt : Pos} {kt k2 : Nat} {pt2 : Pos} (hc : X.calm = true) (hN : X.N.Nodup) (hi : X.N[i]? = some x) (hj : X.N[j]? = some y) (hij : i ≠ j)
    (hx : X.env.scope.names.lookup x = some .local) (hy : X.env.scope.names.lookup y = some .local) (ha : DR X Z [a, b] t)
    (hw : swappedStores [.Tuple [.Name x px, .Name y py] kt pt] (.Tuple [a, b] k2 pt2) X.env = pure (some [x, y]) := by rfl)
    (hs : swapsWithSole [.Tuple [.Name x px, .Name y py] kt pt] (.Tuple [a, b] k2 pt2) pos.line X.env = pure false := by rfl) :
    DS X Z (.Assign [.Tuple [.Name x px, .Name y py] kt pt] (.Tuple [a, b] k2 pt2) pos) (sPar i j t) := by
  refine ⟨PS.imp (ps_par hc hN hi hj hij hx hy ha.pa hw hs) fun D σ H hh => ?_⟩
  obtain ⟨Γ, G, DD, r, t, l⟩ := hh
  refine ⟨Γ, G, _, _, r, t, fun rs Γ1 G1 vs H1 q1 r1 s1 p1 n1 => ?_, (l.ex σ).adv⟩
  split at q1
  · rename_i r0 r2
    obtain ⟨v, w, rfl⟩ : ∃ v w, vs = [v, w] := by
      cases p1 with
      | consD h t => cases t with
        | consD h t => cases t; exact ⟨_, _, rfl⟩
        | consO h n t => cases t; exact ⟨_, _, rfl⟩
      | consO h n t => cases t with
        | consD h t => cases t; exact ⟨_, _, rfl⟩
        | consO h n t => cases t; exact ⟨_, _, rfl⟩
    obtain ⟨a1, a2⟩ := p1.set1 (i := i) r1
    obtain ⟨b1, _⟩ := a2.set1 (i := j) a1
    exact ⟨v, w, rfl, l.nx _ G1 _ H1 q1 b1 s1.same⟩
  · exact q1.elim
end

/-! what a loop walks -/
structure IRel (K : PySem.W.Frag) (J : It) (G : Hp) (xs : List PD) : Prop where
  goes : ∀ (i : Nat) (G' H' : Hp), Same G G' → Same G' H' → i < xs.length → J.go i H'
  stops : ∀ (G' H' : Hp), Same G G' → Same G' H' → J.stop xs.length H'
  yld : ∀ (i : Nat) (G' H' : Hp) (v : V) (H'' : Hp), Same G G' → Same G' H' → i < xs.length → J.yld i H' v H'' → ∃ (G'' : Hp) (d : PD), xs[i]? = some d ∧ Step G' H' G'' H'' ∧ Rp K G'' v d
def lfI (X : Cx) (Z : Dx) (t : TLd) : TI := fun σ H R => ∃ (Γ : SS) (G : Hp) (P : List PD → SS → Prop) (E : XKd), Rl X.K Z.En Γ G σ H ∧ t Γ P E ∧
  (∀ (xs : List PD) (Γ' : SS) (G' : Hp) (J : It) (H' : Hp), P xs Γ' → Rl X.K Z.En Γ' G' σ H' → Adv Γ σ G H Γ' σ G' H' → IRel X.K J G' xs → xs.length ≤ sizeLine → R J H') ∧ XA X Z Γ G σ H E
structure DI (X : Cx) (Z : Dx) (tg e : Expr) (t : TLd) : Prop where
  pi : PI X tg e (lfI X Z t)
theorem PI.imp {X : Cx} {tg e : Expr} {t t' : TI} (h : PI X tg e t) (i : ∀ σ H R, t' σ H R → t σ H R) : PI X tg e t' := ⟨fun pins s σ H R I hw => h.run pins s σ H R I (i σ H R hw)⟩

def sForL (g : TGd) (tb : TSd) : List PD → EndsD → SS → Prop
  | [], D, Γ => D.nx Γ
  | x :: r, D, Γ => g x Γ fun Γ1 => tb { D with nx := fun Γ2 => sForL g tb r D Γ2, ct := fun Γ2 => sForL g tb r D Γ2, bk := D.nx } Γ1
@[simp] def sFor (ti : TLd) (g : TGd) (tb : TSd) : TSd := fun D Γ => ti Γ (fun xs Γ1 => sForL g tb xs D Γ1) D.ex
def sWhileN (c : TTd) (tb : TSd) : Nat → EndsD → SS → Prop
  | 0, _, _ => False
  | n + 1, D, Γ => c Γ (fun b Γ1 => if b = true then tb { D with nx := fun Γ2 => sWhileN c tb n D Γ2, ct := fun Γ2 => sWhileN c tb n D Γ2, bk := D.nx } Γ1 else D.nx Γ1) D.ex
@[simp] def sWhile (c : TTd) (tb : TSd) : TSd := fun D Γ => ∃ n, sWhileN c tb n D Γ
section
variable {X : Cx} {Z : Dx} {tg iter c : Expr} {body : List Stmt} {ti : TLd} {g : TGd} {gs : List Nat} {tb : TSd} {tc : TTd} {pos : Pos}
theorem ds_for (hp : PassesOwn (model X.prog X.w) X.A X.env X.xe) (hc : X.calm = true) (hi : DI X Z tg iter ti) (hg : DG X Z tg gs g) (hb : DSs X Z body tb)
    (hs : ∀ x, foldedSetIterable iter X.env x = pure x := by intro _; rfl) : DS X Z (.For tg iter body [] pos) (sFor ti g tb) := by
  refine ⟨PS.imp (ps_for hp hc hi.pi hg.pg hb.ps hs) fun D σ H hh => ?_⟩
  obtain ⟨Γ, G, DD, r, t, l⟩ := hh
  refine ⟨Γ, G, _, _, r, t, fun xs Γ1 G1 J H1 q1 r1 s1 ir hz => ?_, (l.ex σ).adv⟩
  have l1 := l.up s1.same
  refine ⟨fun i m σ H => m = xs.length - i ∧ i ≤ xs.length ∧ ∃ Γ2 G2, Same G1 G2 ∧ Rl X.K Z.En Γ2 G2 σ H ∧ sForL g tb (xs.drop i) DD Γ2, ⟨xs.length, by simp, Nat.zero_le _, Γ1, G1, Same.refl _, r1, by simpa using q1⟩, ?_⟩
  rintro i m σ2 H2 ⟨rfl, hi, Γ2, G2, s2, r2, q2⟩
  by_cases hlt : i < xs.length
  · refine .inr ⟨ir.goes i G2 H2 s2 r2.sub hlt, fun σ' H' => ∃ Γ3 G3, Same G1 G3 ∧ Rl X.K Z.En Γ3 G3 σ' H' ∧ sForL g tb (xs.drop (i + 1)) DD Γ3, fun σ' H' ⟨Γ3, G3, a, b, c⟩ => ⟨xs.length - (i + 1), by omega, rfl, hlt, Γ3, G3, a, b, c⟩, fun v H3 y => ?_⟩
    obtain ⟨G3, d, ed, st, pd⟩ := ir.yld i G2 H2 v H3 s2 r2.sub hlt y
    have r3 := r2.stp st
    have s3 : Same G1 G3 := s2.trans (st.same r2.sub)
    have hd : xs[i] = d := by
      rw [List.getElem?_eq_getElem hlt] at ed
      exact Option.some.inj ed
    rw [List.drop_eq_getElem_cons hlt, hd] at q2
    refine ⟨Γ2, G3, _, d, r3, pd, q2, fun Γ4 σ4 q4 r4 o4 l4 => ⟨Γ4, G3, _, r4, q4, ⟨fun Γ5 G5 σ5 H5 q5 r5 s5 => ⟨Γ5, G5, s3.trans s5, r5, q5⟩, (l1.up s3).rt, (l1.up s3).nx, fun Γ5 G5 σ5 H5 q5 r5 s5 => ⟨Γ5, G5, s3.trans s5, r5, q5⟩, (l1.up s3).ex⟩⟩⟩
  · have e : i = xs.length := by omega
    subst e
    rw [List.drop_length] at q2
    exact .inl ⟨ir.stops G2 H2 s2 r2.sub, l1.nx Γ2 G2 σ2 H2 q2 r2 s2⟩
theorem ds_while (hp : PassesOwn (model X.prog X.w) X.A X.env X.xe) (hc : DT X Z c tc) (hb : DSs X Z body tb) : DS X Z (.While c body [] pos) (sWhile tc tb) := by
  refine ⟨PS.imp (ps_while hp hc.pt hb.ps) fun D σ H hh => ?_⟩
  obtain ⟨Γ, G, DD, r, ⟨n, t⟩, l⟩ := hh
  refine ⟨fun m σ H => ∃ Γ2 G2, Same G G2 ∧ Rl X.K Z.En Γ2 G2 σ H ∧ sWhileN tc tb m DD Γ2, ⟨n, Γ, G, Same.refl _, r, t⟩, ?_⟩
  rintro m σ2 H2 ⟨Γ2, G2, s2, r2, q2⟩
  cases m with
  | zero => exact q2.elim
  | succ m =>
    refine ⟨Γ2, G2, _, _, r2, q2, fun b Γ3 G3 H3 q3 r3 s3 => ?_, ((l.up s2).ex σ2).adv⟩
    have l3 := (l.up s2).up s3.same
    have s3' := s2.trans s3.same
    cases b with
    | true =>
      rw [if_pos rfl] at q3
      refine iteT ?_
      refine ⟨fun σ' H' => ∃ Γ4 G4, Same G G4 ∧ Rl X.K Z.En Γ4 G4 σ' H' ∧ sWhileN tc tb m DD Γ4, fun σ' H' h => ⟨m, Nat.lt_succ_self _, h⟩, Γ3, G3, _, r3, q3, ⟨fun Γ5 G5 σ5 H5 q5 r5 s5 => ⟨Γ5, G5, s3'.trans s5, r5, q5⟩, l3.rt, l3.nx, fun Γ5 G5 σ5 H5 q5 r5 s5 => ⟨Γ5, G5, s3'.trans s5, r5, q5⟩, l3.ex⟩⟩
    | false =>
      rw [if_neg Bool.false_ne_true] at q3
      exact iteF (l3.nx Γ3 G3 σ2 H3 q3 r3 (Same.refl _))
end
end DL

set_option Elab.async false
set_option linter.all false
set_option maxRecDepth 100000
set_option maxHeartbeats 4000000
/-! The data layer, part 4: comprehensions, defs and their calls, errors raised. -/
namespace DL
open PySem PySem.Spec PyProof.Rows L2

theorem tabs_write {T : List (Addr × Str)} {H : Hp} {p : Addr} {o o0 : HO} (t : LamX.Tabs T H) (hp : H p = some o0) (h1 : ∀ ps, o0 ≠ .tbl ps) (h2 : ∀ φ, o0 ≠ .ext φ) : LamX.Tabs T (upd H p o) := fun q hq => by
  obtain ⟨ps, a, b, c⟩ := t q hq
  refine ⟨ps, ?_, b, fun pos cv hc => ?_⟩
  · rw [upd_ne (ne_of a hp (fun z => h1 ps z.symm))]; exact a
  · obtain ⟨d, e, f⟩ := c pos cv hc
    refine ⟨d, e, ?_⟩
    rw [upd_ne (ne_of f hp (fun z => h2 _ z.symm))]; exact f
theorem next_lst {vs : List V} : ∀ φ, HO.lst vs ≠ .ext φ := fun φ e => by cases e
theorem CRel.next {K : PySem.W.Frag} {G : Hp} {o : HO} {c : OC} (h : CRel K G o c) : ∀ φ, o ≠ .ext φ := by
  cases h <;> (intro ps e; cases e)
section
variable {K : PySem.W.Frag} {En : Ent} {Γ Γ' : SS} {G G' : Hp} {σ σ' : St} {H H' : Hp} {i : Nat} {p : Addr} {o o0 : HO} {vs : List Nat}
/-- an object of nobody's among the slots is written -/
theorem Rl.write (r : Rl K En Γ G σ H) (hG : G p = none) (hE : En.H p = none) (ap : Apart Γ σ p) (hp : H p = some o0) (h1 : ∀ ps, o0 ≠ .tbl ps) (h2 : ∀ φ, o0 ≠ .ext φ) : Rl K En Γ G σ (upd H p o) :=
  r.next (Grow.write r.sub r.ntb hG) (fun q e => .inl (by rw [e]; exact hE)) (tabs_write r.tab hp h1 h2) rfl (fun i c e => by
    obtain ⟨v, e1, h⟩ := r.slot i c e
    exact ⟨v, e1, h.keep (Grow.write r.sub r.ntb hG) fun a ea oc z => ap i c e oc (by rw [e1, ea, z])⟩) fun i c e o => ⟨c, e, o⟩
theorem Adv.write (v : Adv Γ σ G H Γ' σ' G' H') (h0 : H p = none) : Adv Γ σ G H Γ' σ' G' (upd H' p o) :=
  ⟨v.same, fun q u e ap n => by rw [upd_ne (ne_of_none e h0)]; exact v.frm q u e ap n, v.prv, fun q n => upd_pers q (v.pers q n), v.own⟩
/-! ### slots forgotten and brought back -/
@[simp] def wipeD (Γ : SS) : List Nat → SS
  | [] => Γ
  | v :: vs => (wipeD Γ vs).set v .u
@[simp] def keepD : Option SC → SC
  | some (.d x) => .d x
  | _ => .u
@[simp] def restD (Γ0 Γ : SS) : List Nat → SS
  | [] => Γ
  | v :: vs => (restD Γ0 Γ vs).set v (keepD Γ0[v]?)
theorem Rl.wipe (r : Rl K En Γ G σ H) : ∀ vs, Rl K En (wipeD Γ vs) G (L2.wipe σ vs) H
  | [] => r
  | _ :: vs => (Rl.wipe r vs).wipe1
theorem OwnSub.wipe : ∀ vs, OwnSub (wipeD Γ vs) (L2.wipe σ vs) Γ σ
  | [] => .refl
  | _ :: vs => OwnSub.setU.trans (OwnSub.wipe vs)
theorem wipeD_length : ∀ vs, (wipeD Γ vs).length = Γ.length
  | [] => rfl
  | _ :: vs => by show ((wipeD Γ vs).set _ _).length = _; rw [List.length_set, wipeD_length vs]
theorem restD_length {Γ0 : SS} : ∀ vs, (restD Γ0 Γ vs).length = Γ.length
  | [] => rfl
  | _ :: vs => by show ((restD Γ0 Γ vs).set _ _).length = _; rw [List.length_set, restD_length vs]
theorem wipeD_out : ∀ {vs : List Nat}, i ∉ vs → (wipeD Γ vs)[i]? = Γ[i]?
  | [], _ => rfl
  | v :: vs, h => by
    show ((wipeD Γ vs).set v _)[i]? = _
    rw [List.getElem?_set_ne (fun z => h (by simp [z])), wipeD_out (fun z => h (by simp [z]))]
theorem restD_out {Γ0 : SS} : ∀ {vs : List Nat}, i ∉ vs → (restD Γ0 Γ vs)[i]? = Γ[i]?
  | [], _ => rfl
  | v :: vs, h => by
    show ((restD Γ0 Γ vs).set v _)[i]? = _
    rw [List.getElem?_set_ne (fun z => h (by simp [z])), restD_out (fun z => h (by simp [z]))]
theorem restD_in {Γ0 : SS} : ∀ {vs : List Nat}, i ∈ vs → i < Γ.length → (restD Γ0 Γ vs)[i]? = some (keepD Γ0[i]?)
  | v :: vs, h, hl => by
    show ((restD Γ0 Γ vs).set v _)[i]? = _
    by_cases e : v = i
    · subst e
      exact List.getElem?_set_self (by rw [restD_length]; exact hl)
    · rw [List.getElem?_set_ne e]
      exact restD_in ((List.mem_cons.mp h).resolve_left (fun z => e z.symm)) hl
theorem wipe_in : ∀ {vs : List Nat}, i ∈ vs → i < σ.length → (L2.wipe σ vs)[i]? = some none
  | v :: vs, h, hl => by
    show ((L2.wipe σ vs).set v none)[i]? = _
    by_cases e : v = i
    · subst e
      exact List.getElem?_set_self (by rw [L2.wipe_length]; exact hl)
    · rw [List.getElem?_set_ne e]
      exact wipe_in ((List.mem_cons.mp h).resolve_left (fun z => e z.symm)) hl
theorem wipe_eq (hl : σ'.length = (L2.wipe σ vs).length) (h : ∀ j, j ∉ vs → σ'[j]? = (L2.wipe σ vs)[j]?) : L2.wipe σ' vs = L2.wipe σ vs := by
  refine List.ext_getElem? fun j => ?_
  rw [L2.wipe_length] at hl
  by_cases hj : j ∈ vs
  · by_cases hlt : j < σ.length
    · rw [wipe_in hj hlt, wipe_in hj (by omega)]
    · rw [List.getElem?_eq_none (by rw [L2.wipe_length]; omega), List.getElem?_eq_none (by rw [L2.wipe_length]; omega)]
  · rw [L2.wipe_out hj, h j hj]
theorem Rl.rest {Γ0 : SS} (r : Rl K En (wipeD Γ vs) G (L2.wipe σ vs) H) (h0 : ∀ (i : Nat) (x : PD), Γ0[i]? = some (.d x) → ∃ y, σ[i]? = some (some y) ∧ Rp K G y x) : Rl K En (restD Γ0 Γ vs) G σ H := by
  have len : Γ.length = σ.length := by
    have := r.len
    rwa [wipeD_length, L2.wipe_length] at this
  have own : ∀ {j : Nat} {c : SC}, (restD Γ0 Γ vs)[j]? = some c → isOwn c = true → j ∉ vs := fun {j c} e o hj => by
    have hlt : j < Γ.length := by
      by_cases q : j < Γ.length
      · exact q
      · rw [List.getElem?_eq_none (by rw [restD_length]; omega)] at e; cases e
    rw [restD_in hj hlt] at e
    cases e
    unfold keepD at o
    split at o <;> cases o
  refine ⟨r.gr, r.tab, by rw [restD_length]; exact len, fun j c e => ?_, fun j k cj ck a n e1 e2 o1 o2 z1 z2 => ?_⟩
  · by_cases hj : j ∈ vs
    · have hlt : j < Γ.length := by
        by_cases q : j < Γ.length
        · exact q
        · rw [List.getElem?_eq_none (by rw [restD_length]; omega)] at e; cases e
      rw [restD_in hj hlt] at e
      cases e
      unfold keepD
      split
      · rename_i x ex
        obtain ⟨y, h1, h2⟩ := h0 j x ex
        exact ⟨_, h1, y, rfl, h2⟩
      · exact ⟨σ[j]'(by omega), List.getElem?_eq_getElem (by omega), trivial⟩
    · rw [restD_out hj] at e
      obtain ⟨v, h1, h2⟩ := r.slot j c (by rw [wipeD_out hj]; exact e)
      rw [L2.wipe_out hj] at h1
      exact ⟨v, h1, h2⟩
  · have n1 := own e1 o1
    have n2 := own e2 o2
    rw [restD_out n1] at e1
    rw [restD_out n2] at e2
    exact r.dis j k cj ck a n (by rw [wipeD_out n1]; exact e1) (by rw [wipeD_out n2]; exact e2) o1 o2 (by rw [L2.wipe_out n1]; exact z1) (by rw [L2.wipe_out n2]; exact z2)
theorem OwnSub.rest {Γ0 Γ1 : SS} {σ1 : St} (h : OwnSub (wipeD Γ vs) (L2.wipe σ vs) Γ1 σ1) : OwnSub (restD Γ0 Γ vs) σ Γ1 σ1 := fun j c e o => by
  have hj : j ∉ vs := fun hj => by
    have hlt : j < Γ.length := by
      by_cases q : j < Γ.length
      · exact q
      · rw [List.getElem?_eq_none (by rw [restD_length]; omega)] at e; cases e
    rw [restD_in hj hlt] at e
    cases e
    unfold keepD at o
    split at o <;> cases o
  rw [restD_out hj] at e
  obtain ⟨a, b⟩ := h j c (by rw [wipeD_out hj]; exact e) o
  rw [L2.wipe_out hj] at b
  exact ⟨a, b⟩
end

/-! ### [elt for target in iter if ..] -/
def no : XKd := fun _ _ => False
abbrev Dx.quiet (Z : Dx) : Dx := ⟨Z.En, fun _ _ _ _ => False⟩
theorem xa_no {X : Cx} {Z : Dx} {Γ : SS} {G H : Hp} {σ : St} : XA X Z Γ G σ H no := fun _ _ _ _ _ _ e => e.elim
structure DTs (X : Cx) (Z : Dx) (ifs : List Expr) (t : TTd) : Prop where
  pts : PTs X ifs (lfT X Z t)
@[simp] def dYes : TTd := fun Γ P _ => P true Γ
theorem PTs.imp {X : Cx} {e : List Expr} {t t' : TT} (h : PTs X e t) (i : ∀ σ H Q, t' σ H Q → t σ H Q) : PTs X e t' := ⟨fun pins s σ H Q I hw => h.run pins s σ H Q I (i σ H Q hw)⟩
theorem dts_nil {X : Cx} {Z : Dx} : DTs X Z [] dYes := ⟨PTs.imp pts_nil fun σ H Q ⟨Γ, G, P, E, r, t, k, x⟩ => k true Γ G H t r .refl⟩
theorem dts_one {X : Cx} {Z : Dx} {c : Expr} {t : TTd} (h : DT X Z c t) : DTs X Z [c] t := ⟨pts_one h.pt⟩
def oLcL (g : TGd) (tt : TTd) (te : TD) (vs : List Nat) (Γ0 : SS) : List PD → List PD → SS → (OC → SS → Prop) → Prop
  | [], acc, Γ, P => P (.lst acc) (restD Γ0 Γ vs)
  | x :: r, acc, Γ, P => g x (wipeD Γ vs) fun Γ1 => tt Γ1 (fun b Γ2 => if b = true then te Γ2 (fun y Γ3 => oLcL g tt te vs Γ0 r (acc ++ [y]) Γ3 P) no else oLcL g tt te vs Γ0 r acc Γ2 P) no
@[simp] def oLc (ti : TLd) (g : TGd) (tt : TTd) (te : TD) (vs : List Nat) : TOd := fun Γ P E => ti Γ (fun xs Γ1 => oLcL g tt te vs Γ1 xs [] Γ1 P) E
section
variable {X : Cx} {Z : Dx} {ti : TLd} {g : TGd} {gs : List Nat} {tt : TTd} {te : TD} {vs : List Nat}
theorem lc_imp {X' : Cx} (hK : X'.K = X.K) (hgs : ∀ i ∈ gs, i ∈ vs) {σ : St} {H : Hp} {Q : VK} (hh : lfO X Z (oLc ti g tt te vs) σ H Q) : tLc (lfI X Z ti) (lfG X' Z.quiet gs g) (lfT X' Z.quiet tt) (lfE X' Z.quiet te) vs σ H Q := by
  obtain ⟨Γ, G, P, E, r, t, k, x⟩ := hh
  refine ⟨Γ, G, _, E, r, t, fun xs Γ1 G1 J H1 q1 r1 s1 ir hz D hD => ?_, x⟩
  have hD0 : H D = none := none_back s1 hD
  have hED : Z.En.H D = none := r1.freeE hD
  have rI : Rl X.K Z.En (wipeD Γ1 vs) G1 (L2.wipe σ vs) (upd H1 D (.lst [])) := (r1.fresh hD).wipe vs
  have aI : Adv Γ1 σ G1 H1 (wipeD Γ1 vs) (L2.wipe σ vs) G1 (upd H1 D (.lst [])) := (Adv.slots (OwnSub.wipe vs)).write hD
  refine ⟨fun i m Hc => m = xs.length - i ∧ i ≤ xs.length ∧ ∃ (Γ2 : SS) (G2 : Hp) (acc : List PD) (vacc : List V), Adv Γ1 σ G1 H1 (wipeD Γ2 vs) (L2.wipe σ vs) G2 Hc ∧ Rl X.K Z.En (wipeD Γ2 vs) G2 (L2.wipe σ vs) Hc ∧ Hc D = some (.lst vacc) ∧ Rps X.K G2 vacc acc ∧ G2 D = none ∧
      Apart (wipeD Γ2 vs) (L2.wipe σ vs) D ∧ acc.length ≤ i ∧ oLcL g tt te vs Γ1 (xs.drop i) acc Γ2 P,
    ⟨xs.length, by simp, Nat.zero_le _, Γ1, G1, [], [], aI, rI, upd_same, .nil, r1.free hD, (OwnSub.wipe vs).apart (r1.apart hD), Nat.le_refl _, by simpa using q1⟩, ?_⟩
  rintro i m H2 ⟨rfl, hi, Γ2, G2, acc, vacc, a2, r2, hD2, p2, n2, ap2, hacc, q2⟩
  by_cases hlt : i < xs.length
  · refine .inr ⟨ir.goes i G2 H2 a2.same r2.sub hlt, fun Hc => ∃ (Γ2 : SS) (G2 : Hp) (acc : List PD) (vacc : List V), Adv Γ1 σ G1 H1 (wipeD Γ2 vs) (L2.wipe σ vs) G2 Hc ∧ Rl X.K Z.En (wipeD Γ2 vs) G2 (L2.wipe σ vs) Hc ∧ Hc D = some (.lst vacc) ∧ Rps X.K G2 vacc acc ∧ G2 D = none ∧
      Apart (wipeD Γ2 vs) (L2.wipe σ vs) D ∧ acc.length ≤ i + 1 ∧ oLcL g tt te vs Γ1 (xs.drop (i + 1)) acc Γ2 P, fun H' h => ⟨xs.length - (i + 1), by omega, rfl, hlt, h⟩, fun v H3 y => ?_⟩
    obtain ⟨G3, d, ed, st, pd⟩ := ir.yld i G2 H2 v H3 a2.same r2.sub hlt y
    have r3 := r2.stp st
    have hd : xs[i] = d := by
      rw [List.getElem?_eq_getElem hlt] at ed
      exact Option.some.inj ed
    rw [List.drop_eq_getElem_cons hlt, hd] at q2
    have a3 : Adv (wipeD Γ2 vs) (L2.wipe σ vs) G2 H2 (wipeD Γ2 vs) (L2.wipe σ vs) G3 H3 := .step r2 st
    refine ⟨wipeD Γ2 vs, G3, _, d, by rw [hK]; exact r3, by rw [hK]; exact pd, q2, fun Γ4 σ4 q4 r4 o4 l4 => ?_⟩
    have hw : L2.wipe σ4 vs = L2.wipe σ vs := wipe_eq l4.1 fun j hj => l4.2 j fun z => hj (hgs j z)
    have a4 := a3.trans (Adv.slots o4)
    refine ⟨hw, Γ4, G3, _, no, r4, q4, fun b Γ5 G5 H5 q5 r5 s5 => ?_, xa_no⟩
    rw [hK] at r5
    have a5 := a4.trans s5
    cases b with
    | false =>
      rw [if_neg Bool.false_ne_true] at q5
      rw [if_neg Bool.false_ne_true]
      have rr := r5.wipe vs
      rw [hw] at rr
      have aa := a5.trans (Adv.slots (OwnSub.wipe (Γ := Γ5) (σ := σ4) vs))
      rw [hw] at aa
      exact ⟨Γ5, G5, acc, vacc, a2.trans aa, rr, aa.frm D _ hD2 ap2 nlst, p2.up aa.same, aa.prv D (by rw [hD2]; simp) n2 ap2, aa.apart ap2, by omega, q5⟩
    | true =>
      rw [if_pos rfl] at q5
      rw [if_pos rfl]
      refine ⟨Γ5, G5, _, no, by rw [hK]; exact r5, q5, fun y Γ6 G6 v6 H6 q6 r6 s6 p6 => ?_, xa_no⟩
      rw [hK] at r6 p6
      have a6 := a5.trans s6
      have hD6 := a6.frm D _ hD2 ap2 nlst
      have n6 := a6.prv D (by rw [hD2]; simp) n2 ap2
      have ap6 := a6.apart ap2
      refine ⟨vacc, hD6, by rw [p2.length]; omega, ?_⟩
      have rr := (r6.write (o := .lst (vacc ++ [v6])) n6 hED ap6 hD6 nlst next_lst).wipe vs
      rw [hw] at rr
      have aa := a6.trans (Adv.slots (OwnSub.wipe (Γ := Γ6) (σ := σ4) vs))
      rw [hw] at aa
      exact ⟨Γ6, G6, acc ++ [y], vacc ++ [v6], (a2.trans aa).write hD, rr, upd_same, (p2.up aa.same).append (.one p6), n6, aa.apart ap2, by simpa using hacc, q6⟩
  · have e : i = xs.length := by omega
    subst e
    rw [List.drop_length] at q2
    refine .inl ⟨ir.stops G2 H2 a2.same r2.sub, ?_⟩
    have rr : Rl X.K Z.En (restD Γ1 Γ2 vs) G2 σ H2 := r2.rest fun i x e => by
      obtain ⟨v, h1, y, h2, h3⟩ := r1.slot i _ e
      subst h2
      exact ⟨y, h1, h3.up a2.same⟩
    have oo : OwnSub (restD Γ1 Γ2 vs) σ Γ1 σ := OwnSub.rest a2.own
    have ap : Apart (restD Γ1 Γ2 vs) σ D := oo.apart (r1.apart hD)
    exact k _ _ G2 D H2 q2 rr (s1.trans ⟨a2.same, a2.frm, a2.prv, a2.pers, oo⟩) ⟨⟨_, hD2, .lst p2 (by omega)⟩, n2, hED, ap⟩ hD0
theorem frz_imp {t : TOd} {σ : St} {H : Hp} {Q : VK} (hh : lfE X Z (dFrz t) σ H Q) : lfO X Z t σ H Q := by
  obtain ⟨Γ, G, P, E, r, t, k, x⟩ := hh
  refine ⟨Γ, G, _, E, r, t, fun c Γ' G' p H' q r' s' w n0 => ?_, x⟩
  cases c with
  | lst xs =>
    obtain ⟨o, r2, p2⟩ := w.freeze r'
    exact k (.list xs) Γ' _ _ H' q r2 (s'.freeze n0 w.nG) p2
  | dic _ => exact q.elim
end
section
variable {X : Cx} {Z : Dx} {ti : TLd} {g : TGd} {gs : List Nat} {tt : TTd} {te : TD} {elt tg iter : Expr} {ifs : List Expr} {scope : Scope} {own : List (Str × Nat)} {pos spos py : Pos} {i : Nat} {y : Str}
theorem do_lc (hc : X.calm = true) (hN : X.N.Nodup) (hi : DI X Z tg iter ti) (ok : BlkOk X.N X.env.scope scope own) (hgs : ∀ i ∈ gs, i ∈ own.map (·.2))
    (hg : ∀ (s : Shared) (H : Hp) (C : Addr) (cl : List (Str × Addr)) (fp : List Addr), DG (X.blk s H scope (compEnvC scope cl C X.env) fp) Z.quiet tg gs g) (ht : ∀ (s : Shared) (H : Hp) (C : Addr) (cl : List (Str × Addr)) (fp : List Addr), DTs (X.blk s H scope (compEnvC scope cl C X.env) fp) Z.quiet ifs tt)
    (he : ∀ (s : Shared) (H : Hp) (C : Addr) (cl : List (Str × Addr)) (fp : List Addr), DE (X.blk s H scope (compEnvC scope cl C X.env) fp) Z.quiet elt te) (hs : ∀ x, foldedSetIterable iter X.env x = pure x := by intro _; rfl) :
    DO X Z (.ListComp elt [⟨tg, iter, ifs, 0⟩] scope pos) (oLc ti g tt te (own.map (·.2))) :=
  ⟨PE.imp (pe_lc (g := lfG X Z.quiet gs g) (tt := lfT X Z.quiet tt) (te := lfE X Z.quiet te) hc hN hi.pi ok (fun s H C cl fp => (hg s H C cl fp).pg) (fun s H C cl fp => (ht s H C cl fp).pts) (fun s H C cl fp => (he s H C cl fp).pe) hs) fun σ H Q hh => lc_imp rfl hgs hh⟩
theorem ds_setLc (hc : X.calm = true) (hN : X.N.Nodup) (hy : X.N[i]? = some y) (hyl : X.env.scope.names.lookup y = some .local) (hsw : swapsWith (.ListComp elt [⟨tg, iter, ifs, 0⟩] scope pos) (some (.Name y py)) spos.line X.env = pure true) (hi : DI X Z tg iter ti) (ok : BlkOk X.N X.env.scope scope own) (hgs : ∀ i ∈ gs, i ∈ own.map (·.2))
    (hg : ∀ (s : Shared) (H : Hp) (C : Addr) (cl : List (Str × Addr)) (fp : List Addr), DG (X.blk s H scope (compEnvC scope cl C X.env) fp) Z.quiet tg gs g) (ht : ∀ (s : Shared) (H : Hp) (C : Addr) (cl : List (Str × Addr)) (fp : List Addr), DTs (X.blk s H scope (compEnvC scope cl C X.env) fp) Z.quiet ifs tt)
    (he : ∀ (s : Shared) (H : Hp) (C : Addr) (cl : List (Str × Addr)) (fp : List Addr), DE (X.blk s H scope (compEnvC scope cl C X.env) fp) Z.quiet elt te) (hs : ∀ x, foldedSetIterable iter X.env x = pure x := by intro _; rfl) :
    DS X Z (.Assign [.Name y py] (.ListComp elt [⟨tg, iter, ifs, 0⟩] scope pos) spos) (sSetO i (oLc ti g tt te (own.map (·.2)))) := by
  refine ⟨PS.imp (ps_setLc (g := lfG X Z.quiet gs g) (tt := lfT X Z.quiet tt) (te := lfE X Z.quiet te) hc hN hy hyl hsw hi.pi ok (fun s H C cl fp => (hg s H C cl fp).pg) (fun s H C cl fp => (ht s H C cl fp).pts) (fun s H C cl fp => (he s H C cl fp).pe) hs) fun D σ H hh => ?_⟩
  obtain ⟨Γ, G, DD, r, t, l⟩ := hh
  exact lc_imp rfl hgs ⟨Γ, G, _, _, r, t, fun c Γ1 G1 a H1 q1 r1 s1 w n0 => l.nx _ G1 _ H1 q1 (w.set r1) s1.same, (l.ex σ).adv⟩
theorem ds_setLcF (hc : X.calm = true) (hN : X.N.Nodup) (hy : X.N[i]? = some y) (hyl : X.env.scope.names.lookup y = some .local) (hsw : swapsWith (.ListComp elt [⟨tg, iter, ifs, 0⟩] scope pos) (some (.Name y py)) spos.line X.env = pure true) (hi : DI X Z tg iter ti) (ok : BlkOk X.N X.env.scope scope own) (hgs : ∀ i ∈ gs, i ∈ own.map (·.2))
    (hg : ∀ (s : Shared) (H : Hp) (C : Addr) (cl : List (Str × Addr)) (fp : List Addr), DG (X.blk s H scope (compEnvC scope cl C X.env) fp) Z.quiet tg gs g) (ht : ∀ (s : Shared) (H : Hp) (C : Addr) (cl : List (Str × Addr)) (fp : List Addr), DTs (X.blk s H scope (compEnvC scope cl C X.env) fp) Z.quiet ifs tt)
    (he : ∀ (s : Shared) (H : Hp) (C : Addr) (cl : List (Str × Addr)) (fp : List Addr), DE (X.blk s H scope (compEnvC scope cl C X.env) fp) Z.quiet elt te) (hs : ∀ x, foldedSetIterable iter X.env x = pure x := by intro _; rfl) :
    DS X Z (.Assign [.Name y py] (.ListComp elt [⟨tg, iter, ifs, 0⟩] scope pos) spos) (sSet i (dFrz (oLc ti g tt te (own.map (·.2))))) := by
  refine ⟨PS.imp (ps_setLc (g := lfG X Z.quiet gs g) (tt := lfT X Z.quiet tt) (te := lfE X Z.quiet te) hc hN hy hyl hsw hi.pi ok (fun s H C cl fp => (hg s H C cl fp).pg) (fun s H C cl fp => (ht s H C cl fp).pts) (fun s H C cl fp => (he s H C cl fp).pe) hs) fun D σ H hh => ?_⟩
  obtain ⟨Γ, G, DD, r, t, l⟩ := hh
  exact lc_imp rfl hgs (frz_imp ⟨Γ, G, _, _, r, t, fun d Γ1 G1 v H1 q1 r1 s1 p1 => l.nx _ G1 _ H1 q1 (r1.setD p1) s1.same, (l.ex σ).adv⟩)
end
end DL

set_option Elab.async false
set_option linter.all false
set_option maxRecDepth 100000
set_option maxHeartbeats 4000000
/-! The data layer, part 5: defs and their calls, errors raised, what is done to an own list. -/
namespace DL
open PySem PySem.Spec PyProof.Rows L2

theorem passLN {X : Cx} : Passes (L2N.CX X.prog X.w) X E0 := fun _ _ _ _ _ _ _ h => by
  obtain ⟨_, _, _, _, _, _, _, _, _, _, _, _, z⟩ := h
  exact z.elim
theorem takesN0 {X : Cx} : L2N.Takes X (fun _ _ _ _ => False) := fun _ _ x => by
  obtain ⟨_, _, _, _, _, _, _, _, _, _, _, _, _, _, _, _, z⟩ := x
  exact z.elim
abbrev MF := SS → (Res → SS → Prop) → XKd → Prop
/-- what a def's body makes of its arguments: np parameters, n slots -/
@[simp] def mOf (t : TSd) (np n : Nat) : MF := fun args P E => t ⟨fun Γ => P (.d .none) (Γ.take np), fun r Γ => P r (Γ.take np), fun _ => False, fun _ => False, fun x Γ => E x (Γ.take np)⟩ (args ++ List.replicate (n - np) .u)
def AR (K : PySem.W.Frag) (G H : Hp) (v : V) : SC → Prop
  | .u => True
  | .d x => Rp K G v x
  | .io c => ∃ a o, v = .ref a ∧ H a = some o ∧ CRel K G o c ∧ G a = none
  | .own _ => False
  | .pin x => v = x
structure ArgsOk (K : PySem.W.Frag) (G H : Hp) (vs : List V) (args : SS) : Prop where
  len : args.length = vs.length
  ar : ∀ (i : Nat) (c : SC), args[i]? = some c → ∃ v, vs[i]? = some v ∧ AR K G H v c
  dis : ∀ (i j : Nat) (ci cj : OC) (a : Addr), i ≠ j → args[i]? = some (.io ci) → args[j]? = some (.io cj) → vs[i]? = some (V.ref a) → vs[j]? = some (V.ref a) → False
def ioOf (args : SS) (vs : List V) (a : Addr) : Prop := ∃ (i : Nat) (c : OC), args[i]? = some (.io c) ∧ vs[i]? = some (V.ref a)
structure PostD (K : PySem.W.Frag) (T : List (Addr × Str)) (G H : Hp) (vs : List V) (args : SS) (G' H' : Hp) (args' : SS) : Prop where
  gr : Grow (ioOf args vs) G H G' H'
  tab : LamX.Tabs T H'
  io : ∀ (i : Nat) (a : Addr) (c c0 : OC), args[i]? = some (.io c0) → vs[i]? = some (V.ref a) → args'[i]? = some (.io c) → ∃ o, H' a = some o ∧ CRel K G' o c ∧ G' a = none
def RR (K : PySem.W.Frag) (H G' H' : Hp) (v : V) : Res → Prop
  | .d x => Rp K G' v x
  | .o c => ∃ a o, v = .ref a ∧ H a = none ∧ H' a = some o ∧ CRel K G' o c ∧ G' a = none
/-- the promise of a def whose body makes m of its arguments -/
def spDG (pre : Hp → Prop) (K : PySem.W.Frag) (mg : Str → Option Value) (T : List (Addr × Str)) (np : Nat) (m : MF) : Sp := fun vs H Q E => vs.length = np ∧ ∃ (G : Hp) (args : SS) (P : Res → SS → Prop) (PE : XKd), pre G ∧ Same G H ∧ (∀ a ps, G a ≠ some (.tbl ps)) ∧ LamX.Tabs T H ∧ ArgsOk K G H vs args ∧ m args P PE ∧
  (∀ (r : Res) (args' : SS) (G' : Hp) (v : V) (H' : Hp), P r args' → PostD K T G H vs args G' H' args' → RR K H G' H' v r → Q v H') ∧
  (∀ (x : Exn) (args' : SS) (G' : Hp) (cls : Value) (d : Option Addr) (H' : Hp), PE x args' → PostD K T G H vs args G' H' args' → RX K mg G' x cls d → E cls d H')
abbrev spD : (K : PySem.W.Frag) → (mg : Str → Option Value) → (T : List (Addr × Str)) → (np : Nat) → (m : MF) → Sp := spDG fun _ => True
theorem spDG.imp {pre : Hp → Prop} {K : PySem.W.Frag} {mg : Str → Option Value} {T : List (Addr × Str)} {np : Nat} {m m' : MF} (h : ∀ args P E, m' args P E → m args P E) : ∀ vs H Q E, spDG pre K mg T np m' vs H Q E → spDG pre K mg T np m vs H Q E := fun vs H Q E ⟨a, G, args, P, PE, z, b, c, d, e, f, g⟩ => ⟨a, G, args, P, PE, z, b, c, d, e, h _ _ _ f, g⟩

def ioAt (args : SS) (vs : List V) (i : Nat) : Option Addr := match args[i]?, vs[i]? with
  | some (.io _), some (.ref a) => some a
  | _, _ => none
theorem ioAt_of {args : SS} {vs : List V} {i : Nat} {a : Addr} (h : ioAt args vs i = some a) : ∃ c, args[i]? = some (.io c) ∧ vs[i]? = some (V.ref a) := by
  unfold ioAt at h
  split at h
  · rename_i c b e1 e2
    cases h
    exact ⟨c, e1, e2⟩
  · cases h
theorem ioAt_mk {args : SS} {vs : List V} {i : Nat} {a : Addr} {c : OC} (h1 : args[i]? = some (.io c)) (h2 : vs[i]? = some (V.ref a)) : ioAt args vs i = some a := by
  unfold ioAt
  rw [h1, h2]
theorem start_lt {N : List Str} {vs : List V} {i : Nat} {v : V} (h : vs[i]? = some v) : (L2.start N vs)[i]? = some (some v) := by
  unfold L2.start
  have hl : i < vs.length := by
    by_cases q : i < vs.length
    · exact q
    · rw [List.getElem?_eq_none (by simpa using q)] at h; cases h
  rw [List.getElem?_append_left (by simpa using hl), List.getElem?_map, h]
  rfl
section
variable {P : Program} {w : World} {K : PySem.W.Frag} {mg : Str → Option Value} {base : Heap} {T : List (Addr × Str)}
/-- a def of the program as it stands, its code object told -/
structure FunC (K : PySem.W.Frag) (x qual : Str) (st : Stmt) (f : Addr) (fd : FuncData) (cdv : Value) : Prop where
  ex : ∃ (oc : Value) (od : Option Addr) (kV doc pm : Value) (an : Option Addr) (ct : Value) (osl : Array (Option Value)),
    fd = PySem.W.fnOf x qual (defArgs st) (defBody st) (defScope st) .none kV doc pm an cdv ct ∧ K.lookup f = some ⟨oc, od, .func fd, osl⟩ ∧ PySem.W.codeIn K cdv qual = true
  kp : PySem.W.keepIn K (.ref f) = true
/-- THE RULE for a def -/
theorem fn_okG {pre : Hp → Prop} {x qual : Str} {st : Stmt} {f : Addr} {fd : FuncData} {cdv : Value} {N ps : List Str} {k : Nat} {t : TSd} (F : FunC K x qual st f fd cdv) (S : FnScope N ps (defScope st))
    (hb : ∀ (A : Around) (outer : List Env) (s : Shared) (H : Hp) (E : XK) (Z : Dx), Room k (A.deeper (envOfC qual (defScope st) s.heap.objs.size f cdv)) → Z.En.T = T → pre Z.En.G →
      L2N.Takes (cxOf (L2N.CX P w) P w K mg base N qual (defScope st) f cdv A outer s H E) Z.W → PassesOwn (model P w) (A.deeper (envOfC qual (defScope st) s.heap.objs.size f cdv)) (envOfC qual (defScope st) s.heap.objs.size f cdv) (cxOf (L2N.CX P w) P w K mg base N qual (defScope st) f cdv A outer s H E).xe →
      DSs (cxOf (L2N.CX P w) P w K mg base N qual (defScope st) f cdv A outer s H E) Z (defBody st) t) :
    FnOk P w K mg base (L2N.CX P w) (k + 1) f fd ps (spDG pre K mg T ps.length (mOf t ps.length N.length)) := by
  have hpl : ps.length ≤ N.length := by
    have := congrArg List.length S.pre
    rw [List.length_take] at this
    omega
  obtain ⟨oc, od, kV, doc, pm, an, ct, osl, rfl, lk, hcd⟩ := F.ex
  refine fn_of lk hcd S (fun vs H Q E h => h.1) fun A outer s H vs Q E hr h => ?_
  obtain ⟨hlen, G, args, PP, PE, hpre, sG, nt, tT, aOk, hm, hR, hE⟩ := h
  refine ⟨_, (hb A outer s H E ⟨⟨G, H, T, ioAt args vs⟩, fun cls d _ H' => E cls d H'⟩ hr rfl hpre (L2N.takes_of rfl rfl rfl rfl) (passes_of rfl)).ps, ?_⟩
  have r0 : Rl K ⟨G, H, T, ioAt args vs⟩ (args ++ List.replicate (N.length - ps.length) .u) G (L2.start N vs) H := by
    have la : args.length = ps.length := aOk.len.trans hlen
    have io_of : ∀ {i : Nat} {c : SC}, (args ++ List.replicate (N.length - ps.length) SC.u)[i]? = some c → isOwn c = true → ∃ o, args[i]? = some (.io o) ∧ c = .io o := fun {i c} e o => by
      by_cases hi : i < args.length
      · rw [List.getElem?_append_left hi] at e
        obtain ⟨v, e1, h1⟩ := aOk.ar i c e
        cases c with
        | u => cases o
        | d _ => cases o
        | pin _ => cases o
        | own _ => exact h1.elim
        | io o' => exact ⟨o', e, rfl⟩
      · rw [List.getElem?_append_right (by omega), List.getElem?_replicate] at e
        split at e
        · cases e; cases o
        · cases e
    refine ⟨Grow.refl sG nt, tT, ?_, fun i c e => ?_, fun i j ci cj a n e1 e2 o1 o2 z1 z2 => ?_⟩
    · unfold L2.start
      rw [List.length_append, List.length_append, List.length_map, List.length_replicate, List.length_replicate, la, hlen]
    · by_cases hi : i < args.length
      · rw [List.getElem?_append_left hi] at e
        obtain ⟨v, e1, h1⟩ := aOk.ar i c e
        refine ⟨some v, start_lt e1, ?_⟩
        cases c with
        | u => trivial
        | d x => exact ⟨v, rfl, h1⟩
        | pin _ => exact congrArg some h1
        | own _ => exact h1.elim
        | io c =>
          obtain ⟨a, o, rfl, h2, h3, h4⟩ := h1
          exact ⟨a, o, rfl, h2, h3, h4, ioAt_mk e e1⟩
      · have hi2 : i < N.length := by
          rw [List.getElem?_append_right (by omega), List.getElem?_replicate] at e
          split at e
          · omega
          · cases e
        rw [List.getElem?_append_right (by omega), List.getElem?_replicate] at e
        split at e
        · cases e
          refine ⟨none, ?_, trivial⟩
          unfold L2.start
          rw [List.getElem?_append_right (by rw [List.length_map]; have := aOk.len; omega), List.getElem?_replicate, List.length_map, if_pos (by have := aOk.len; omega)]
        · cases e
    · obtain ⟨c1, f1, rfl⟩ := io_of e1 o1
      obtain ⟨c2, f2, rfl⟩ := io_of e2 o2
      obtain ⟨v1, g1, a1, _, rfl, _⟩ := aOk.ar i _ f1
      obtain ⟨v2, g2, a2, _, rfl, _⟩ := aOk.ar j _ f2
      rw [start_lt g1] at z1
      rw [start_lt g2] at z2
      cases z1
      cases z2
      exact aOk.dis i j c1 c2 a n f1 f2 g1 g2
  have post : ∀ {Γ' G' σ' H'}, Rl K ⟨G, H, T, ioAt args vs⟩ Γ' G' σ' H' → PostD K T G H vs args G' H' (Γ'.take ps.length) := fun {Γ' G' σ' H'} r =>
    ⟨r.gr.imp fun p ⟨i, e⟩ _ => by
      obtain ⟨c, h1, h2⟩ := ioAt_of e
      exact ⟨i, c, h1, h2⟩, r.tab, fun i a c c0 e1 e2 e3 => by
      have e4 : Γ'[i]? = some (.io c) := by
        rw [List.getElem?_take] at e3
        split at e3
        · exact e3
        · cases e3
      obtain ⟨v, _, a', o, _, h1, h2, h3, h4⟩ := r.slot i _ e4
      have h4' : ioAt args vs i = some a' := h4
      rw [ioAt_mk e1 e2] at h4'
      cases h4'
      exact ⟨o, h1, h2, h3⟩⟩
  refine ⟨_, G, _, r0, hm, ⟨fun Γ' G' σ' H' q r s => hR (.d .none) _ G' .non H' q (post r) .non, fun r Γ' G' σ' v H' q rl s rr => hR r _ G' v H' q (post rl) ?_, fun _ _ _ _ q => q.elim, fun _ _ _ _ q => q.elim, fun σ' x Γ' G' cls d H' q rl s rx => hE x _ G' cls d H' q (post rl) rx⟩⟩
  cases r with
  | d x => exact rr
  | o c =>
    obtain ⟨a, rfl, wn⟩ := rr
    obtain ⟨o, h1, h2⟩ := wn.obj
    exact ⟨a, o, rfl, wn.nE, h1, h2, wn.nG⟩
theorem fn_ok {x qual : Str} {st : Stmt} {f : Addr} {fd : FuncData} {cdv : Value} {N ps : List Str} {k : Nat} {t : TSd} (F : FunC K x qual st f fd cdv) (S : FnScope N ps (defScope st))
    (hb : ∀ (A : Around) (outer : List Env) (s : Shared) (H : Hp) (E : XK) (Z : Dx), Room k (A.deeper (envOfC qual (defScope st) s.heap.objs.size f cdv)) → Z.En.T = T →
      L2N.Takes (cxOf (L2N.CX P w) P w K mg base N qual (defScope st) f cdv A outer s H E) Z.W → PassesOwn (model P w) (A.deeper (envOfC qual (defScope st) s.heap.objs.size f cdv)) (envOfC qual (defScope st) s.heap.objs.size f cdv) (cxOf (L2N.CX P w) P w K mg base N qual (defScope st) f cdv A outer s H E).xe →
      DSs (cxOf (L2N.CX P w) P w K mg base N qual (defScope st) f cdv A outer s H E) Z (defBody st) t) :
    FnOk P w K mg base (L2N.CX P w) (k + 1) f fd ps (spD K mg T ps.length (mOf t ps.length N.length)) := fn_okG F S fun A outer s H E Z hr hT _ tk pp => hb A outer s H E Z hr hT tk pp
end

theorem FunC.binds {K : PySem.W.Frag} {x qual : Str} {st : Stmt} {f : Addr} {fd : FuncData} {cdv : Value} {ps : List Str} (F : FunC K x qual st f fd cdv)
    (h : ∀ (kV doc pm : Value) (an : Option Addr) (ct : Value) (us : List Value), us.length = ps.length → bindArgs (PySem.W.fnOf x qual (defArgs st) (defBody st) (defScope st) .none kV doc pm an cdv ct) ⟨us, []⟩ = pure (ps.zip us)) : Binds K fd ps [] := by
  obtain ⟨oc, od, kV, doc, pm, an, ct, osl, rfl, lk, hcd⟩ := F.ex
  exact .all (h kV doc pm an ct)
/-- nothing is promised -/
theorem fn_none {P : Program} {w : World} {K : PySem.W.Frag} {mg : Str → Option Value} {base : Heap} {T : List (Addr × Str)} {k : Nat} {f : Addr} {fd : FuncData} {ps : List Str} {CX : CXT} : FnOk P w K mg base CX k f fd ps (spD K mg T ps.length fun _ _ _ => False) :=
  ⟨fun vs H Q E h => h.1, fun A outer s H args us vs Q E hr e0 hb r h => by
    obtain ⟨_, _, _, _, _, _, _, _, _, _, h, _⟩ := h
    exact h.elim⟩

/-! ### calls -/
@[simp] def slotsOf : List Arg → List Nat
  | [] => []
  | .d _ :: as => slotsOf as
  | .s i :: as => i :: slotsOf as
@[simp] def argSC (Γ : SS) : Arg → SC
  | .d x => .d x
  | .s i => match Γ[i]? with
    | some (.own c) => .io c
    | some (.io c) => .io c
    | some (.pin v) => .pin v
    | _ => .u
@[simp] def putV : SC → SC → SC
  | .io c, .own _ => .own c
  | .io c, .io _ => .io c
  | _, _ => .u
@[simp] def putB (Γ : SS) (i : Nat) (c : SC) : SS := match Γ[i]? with
  | some s => Γ.set i (putV c s)
  | none => Γ
@[simp] def back : SS → List Arg → SS → SS
  | Γ, .s i :: as, c :: cs => back (putB Γ i c) as cs
  | Γ, .s i :: as, [] => back (putB Γ i .u) as []
  | Γ, .d _ :: as, _ :: cs => back Γ as cs
  | Γ, .d _ :: as, [] => back Γ as []
  | Γ, [], _ => Γ
theorem putB_at {Γ : SS} {i j : Nat} {c : SC} : (putB Γ i c)[j]? = if i = j then Γ[j]?.map (putV c) else Γ[j]? := by
  unfold putB
  split
  · rename_i s e
    by_cases h : i = j
    · subst h
      have hl : i < Γ.length := by
        by_cases q : i < Γ.length
        · exact q
        · rw [List.getElem?_eq_none (by simpa using q)] at e; cases e
      rw [if_pos rfl, List.getElem?_set_self hl, e]
      rfl
    · rw [if_neg h, List.getElem?_set_ne h]
  · rename_i e
    by_cases h : i = j
    · subst h
      rw [if_pos rfl, e]
      rfl
    · rw [if_neg h]
theorem putB_length {Γ : SS} {i : Nat} {c : SC} : (putB Γ i c).length = Γ.length := by
  unfold putB
  split
  · exact List.length_set ..
  · rfl
theorem back_length : ∀ (as : List Arg) (cs Γ : SS), (back Γ as cs).length = Γ.length
  | [], _, _ => by simp [back]
  | .s i :: as, c :: cs, Γ => by rw [back, back_length as cs, putB_length]
  | .s i :: as, [], Γ => by rw [back, back_length as [], putB_length]
  | .d _ :: as, _ :: cs, Γ => by rw [back, back_length as cs]
  | .d _ :: as, [], Γ => by rw [back, back_length as []]
theorem back_out {j : Nat} : ∀ (as : List Arg) (cs Γ : SS), j ∉ slotsOf as → (back Γ as cs)[j]? = Γ[j]?
  | [], _, _, _ => by simp [back]
  | .s i :: as, c :: cs, Γ, h => by
    have h1 : ¬ i = j := fun e => h (by simp [slotsOf, e])
    rw [back, back_out as cs _ (fun z => h (by simp [slotsOf, z])), putB_at, if_neg h1]
  | .s i :: as, [], Γ, h => by
    have h1 : ¬ i = j := fun e => h (by simp [slotsOf, e])
    rw [back, back_out as [] _ (fun z => h (by simp [slotsOf, z])), putB_at, if_neg h1]
  | .d _ :: as, _ :: cs, Γ, h => by rw [back]; exact back_out as cs Γ (by simpa [slotsOf] using h)
  | .d _ :: as, [], Γ, h => by rw [back]; exact back_out as [] Γ (by simpa [slotsOf] using h)
theorem mem_slots {j : Nat} : ∀ {as : List Arg} {k : Nat}, as[k]? = some (.s j) → j ∈ slotsOf as
  | [], _, e => by simp at e
  | .s i :: as, 0, e => by simp at e; simp [slotsOf, e]
  | .d _ :: as, 0, e => by simp at e
  | .s i :: as, k + 1, e => by simp only [slotsOf, List.mem_cons]; exact .inr (mem_slots (k := k) (by simpa using e))
  | .d _ :: as, k + 1, e => by simp only [slotsOf]; exact mem_slots (k := k) (by simpa using e)
theorem slots_mem {j : Nat} : ∀ {as : List Arg}, j ∈ slotsOf as → ∃ k : Nat, as[k]? = some (.s j)
  | [], h => by simp [slotsOf] at h
  | .s i :: as, h => by
    simp only [slotsOf, List.mem_cons] at h
    rcases h with h | h
    · exact ⟨0, by simp [h]⟩
    · obtain ⟨k, e⟩ := slots_mem h
      exact ⟨k + 1, by simpa using e⟩
  | .d _ :: as, h => by
    simp only [slotsOf] at h
    obtain ⟨k, e⟩ := slots_mem h
    exact ⟨k + 1, by simpa using e⟩
theorem back_in {j : Nat} : ∀ (as : List Arg) (cs Γ : SS) (k : Nat), (slotsOf as).Nodup → as[k]? = some (.s j) → (back Γ as cs)[j]? = Γ[j]?.map (putV ((cs[k]?).getD .u))
  | [], _, _, _, _, e => by simp at e
  | .s i :: as, c :: cs, Γ, 0, h, e => by
    simp at e
    subst e
    rw [back, back_out as cs _ (List.nodup_cons.mp h).1, putB_at, if_pos rfl]
    simp
  | .s i :: as, [], Γ, 0, h, e => by
    simp at e
    subst e
    rw [back, back_out as [] _ (List.nodup_cons.mp h).1, putB_at, if_pos rfl]
    simp
  | .s i :: as, c :: cs, Γ, k + 1, h, e => by
    have e' : as[k]? = some (.s j) := by simpa using e
    have ne : ¬ i = j := fun z => (List.nodup_cons.mp h).1 (by rw [z]; exact mem_slots e')
    rw [back, back_in as cs _ k (List.nodup_cons.mp h).2 e', putB_at, if_neg ne]
    simp
  | .s i :: as, [], Γ, k + 1, h, e => by
    have e' : as[k]? = some (.s j) := by simpa using e
    have ne : ¬ i = j := fun z => (List.nodup_cons.mp h).1 (by rw [z]; exact mem_slots e')
    rw [back, back_in as [] _ k (List.nodup_cons.mp h).2 e', putB_at, if_neg ne]
    simp
  | .d _ :: as, _ :: cs, Γ, 0, h, e => by simp at e
  | .d _ :: as, [], Γ, 0, h, e => by simp at e
  | .d _ :: as, c :: cs, Γ, k + 1, h, e => by
    rw [back, back_in as cs Γ k (by simpa [slotsOf] using h) (by simpa using e)]
    simp
  | .d _ :: as, [], Γ, k + 1, h, e => by
    rw [back, back_in as [] Γ k (by simpa [slotsOf] using h) (by simpa using e)]
    simp
theorem ARels.length {K : PySem.W.Frag} {G : Hp} {σ : St} : ∀ {vs : List V} {as : List Arg}, ARels K G σ vs as → vs.length = as.length
  | _, _, .nil => rfl
  | _, _, .cons _ t => by simp [ARels.length t]
theorem ARels.get {K : PySem.W.Frag} {G : Hp} {σ : St} : ∀ {vs : List V} {as : List Arg} {i : Nat} {a : Arg}, ARels K G σ vs as → as[i]? = some a → ∃ v, vs[i]? = some v ∧ ARel K G σ v a
  | _, _, _, _, .nil, e => by simp at e
  | _, _, 0, _, .cons h _, e => by simp at e; subst e; exact ⟨_, by simp, h⟩
  | _, _, i + 1, _, .cons _ t, e => by simpa using ARels.get (i := i) t (by simpa using e)
section
variable {K : PySem.W.Frag} {En : Ent} {Γ : SS} {G : Hp} {σ : St} {H : Hp} {vs : List V} {as : List Arg}
theorem argSC_io {a : Arg} {c : OC} (h : argSC Γ a = .io c) : ∃ i, a = .s i ∧ (Γ[i]? = some (.own c) ∨ Γ[i]? = some (.io c)) := by
  cases a with
  | d x => cases h
  | s i =>
    refine ⟨i, rfl, ?_⟩
    unfold argSC at h
    dsimp only at h
    split at h
    · rename_i e; cases h; exact .inl e
    · rename_i e; cases h; exact .inr e
    · cases h
    · cases h
theorem args_ok (r : Rl K En Γ G σ H) (h : ARels K G σ vs as) (nd : (slotsOf as).Nodup) : ArgsOk K G H vs (as.map (argSC Γ)) := by
  refine ⟨by rw [List.length_map, h.length], fun i c e => ?_, fun i j ci cj a n e1 e2 z1 z2 => ?_⟩
  · rw [List.getElem?_map] at e
    cases ea : as[i]? with
    | none => rw [ea] at e; cases e
    | some a =>
      rw [ea] at e
      have e' : argSC Γ a = c := Option.some.inj e
      subst e'
      obtain ⟨v, e1, h1⟩ := h.get ea
      refine ⟨v, e1, ?_⟩
      cases a with
      | d x => exact h1
      | s k =>
        have h1' : σ[k]? = some (some v) := h1
        show AR K G H v (argSC Γ (.s k))
        unfold argSC
        dsimp only
        split
        · rename_i c ec
          obtain ⟨v', f1, a, o, f2, g1, g2, g3, _⟩ := r.slot k _ ec
          subst f2
          rw [h1'] at f1
          cases f1
          exact ⟨a, o, rfl, g1, g2, g3⟩
        · rename_i c ec
          obtain ⟨v', f1, a, o, f2, g1, g2, g3, _⟩ := r.slot k _ ec
          subst f2
          rw [h1'] at f1
          cases f1
          exact ⟨a, o, rfl, g1, g2, g3⟩
        · rename_i v' ec
          obtain ⟨u, f1, f2⟩ := r.slot k _ ec
          have f2' : u = some v' := f2
          rw [h1', f2'] at f1
          exact Option.some.inj (Option.some.inj f1)
        · trivial
  · rw [List.getElem?_map] at e1 e2
    cases ea : as[i]? with
    | none => rw [ea] at e1; cases e1
    | some a1 =>
      cases eb : as[j]? with
      | none => rw [eb] at e2; cases e2
      | some a2 =>
        rw [ea] at e1
        rw [eb] at e2
        obtain ⟨k1, rfl, o1⟩ := argSC_io (Option.some.inj e1)
        obtain ⟨k2, rfl, o2⟩ := argSC_io (Option.some.inj e2)
        obtain ⟨v1, f1, g1⟩ := h.get ea
        obtain ⟨v2, f2, g2⟩ := h.get eb
        rw [z1] at f1
        rw [z2] at f2
        cases f1
        cases f2
        have own : ∀ {k : Nat} {c : OC}, (Γ[k]? = some (.own c) ∨ Γ[k]? = some (.io c)) → ∃ s, Γ[k]? = some s ∧ isOwn s = true := fun {k c} o => o.elim (fun e => ⟨_, e, rfl⟩) fun e => ⟨_, e, rfl⟩
        obtain ⟨s1, p1, q1⟩ := own o1
        obtain ⟨s2, p2, q2⟩ := own o2
        refine r.dis k1 k2 s1 s2 a (fun z => ?_) p1 p2 q1 q2 g1 g2
        subst z
        -- the same slot twice
        have : ∀ {as : List Arg} {i j : Nat}, (slotsOf as).Nodup → as[i]? = some (.s k1) → as[j]? = some (.s k1) → i = j := by
          intro as
          induction as with
          | nil => intro i j _ e _; simp at e
          | cons b as ih =>
            intro i j hn e1 e2
            cases b with
            | d x =>
              cases i with
              | zero => simp at e1
              | succ i => cases j with
                | zero => simp at e2
                | succ j => exact congrArg (· + 1) (ih (i := i) (j := j) (by simpa [slotsOf] using hn) (by simpa using e1) (by simpa using e2))
            | s m =>
              have hn' := List.nodup_cons.mp hn
              cases i with
              | zero => cases j with
                | zero => rfl
                | succ j =>
                  simp at e1
                  exact absurd (mem_slots (k := j) (by simpa using e2)) (by rw [← e1]; exact hn'.1)
              | succ i => cases j with
                | zero =>
                  simp at e2
                  exact absurd (mem_slots (k := i) (by simpa using e1)) (by rw [← e2]; exact hn'.1)
                | succ j => exact congrArg (· + 1) (ih (i := i) (j := j) hn'.2 (by simpa using e1) (by simpa using e2))
        exact n (this nd ea eb)
theorem io_slot (r : Rl K En Γ G σ H) (h : ARels K G σ vs as) {p : Addr} (q : ioOf (as.map (argSC Γ)) vs p) : ∃ (k i : Nat) (s : SC), as[k]? = some (.s i) ∧ vs[k]? = some (V.ref p) ∧ Γ[i]? = some s ∧ isOwn s = true ∧ σ[i]? = some (some (V.ref p)) := by
  obtain ⟨k, c, e1, e2⟩ := q
  rw [List.getElem?_map] at e1
  cases ea : as[k]? with
  | none => rw [ea] at e1; cases e1
  | some a =>
    rw [ea] at e1
    obtain ⟨i, rfl, o⟩ := argSC_io (Option.some.inj e1)
    obtain ⟨v, f1, g1⟩ := h.get ea
    rw [e2] at f1
    cases f1
    rcases o with o | o
    · exact ⟨k, i, _, ea, e2, o, rfl, g1⟩
    · exact ⟨k, i, _, ea, e2, o, rfl, g1⟩
/-- behind a call -/
theorem Rl.after (r : Rl K En Γ G σ H) (h : ARels K G σ vs as) (nd : (slotsOf as).Nodup) {G' H' : Hp} {cs : SS} (q : PostD K En.T G H vs (as.map (argSC Γ)) G' H' cs) : Rl K En (back Γ as cs) G' σ H' ∧ Adv Γ σ G H (back Γ as cs) σ G' H' := by
  have ownB : ∀ {i : Nat} {c : SC}, (back Γ as cs)[i]? = some c → isOwn c = true → ∃ c', Γ[i]? = some c' ∧ isOwn c' = true := fun {i c} e o => by
    by_cases hi : i ∈ slotsOf as
    · obtain ⟨k, ek⟩ := slots_mem hi
      rw [back_in as cs Γ k nd ek] at e
      cases eg : Γ[i]? with
      | none => rw [eg] at e; cases e
      | some s =>
        rw [eg] at e
        have e' : putV ((cs[k]?).getD .u) s = c := Option.some.inj e
        subst e'
        refine ⟨s, rfl, ?_⟩
        unfold putV at o
        split at o
        · rfl
        · rfl
        · cases o
    · rw [back_out as cs Γ hi] at e
      exact ⟨c, e, o⟩
  have hio : ∀ p, ioOf (as.map (argSC Γ)) vs p → En.H p = none ∨ En.ioA p := fun p hp => by
    obtain ⟨k, i, s, _, _, e3, o, e4⟩ := io_slot r h hp
    obtain ⟨v, f1, f2⟩ := r.slot i s e3
    rw [e4] at f1
    cases f1
    cases s with
    | u => cases o
    | d _ => cases o
    | pin _ => cases o
    | own c =>
      obtain ⟨a, u, g1, _, _, _, g5⟩ := f2
      cases g1
      exact .inl g5
    | io c =>
      obtain ⟨a, u, g1, _, _, _, g5⟩ := f2
      cases g1
      exact .inr ⟨i, g5⟩
  refine ⟨r.next q.gr hio q.tab (back_length as cs Γ) (fun i c e => ?_) fun i c e o => ownB e o, ⟨q.gr.ext, fun p o e ap n => q.gr.frm p o e (fun z => ?_) n, fun p n e _ => q.gr.prv p e n, q.gr.pers, fun i c e o => ⟨ownB e o, rfl⟩⟩⟩
  · by_cases hi : i ∈ slotsOf as
    · obtain ⟨k, ek⟩ := slots_mem hi
      rw [back_in as cs Γ k nd ek] at e
      cases eg : Γ[i]? with
      | none => rw [eg] at e; cases e
      | some s =>
        rw [eg] at e
        have e' : putV ((cs[k]?).getD .u) s = c := Option.some.inj e
        obtain ⟨v, f1, f2⟩ := r.slot i s eg
        refine ⟨v, f1, ?_⟩
        obtain ⟨vk, g1, g2⟩ := h.get ek
        have g2' : σ[i]? = some (some vk) := g2
        rw [f1] at g2'
        have g2' : v = some vk := Option.some.inj g2'
        subst g2'
        subst e'
        cases ec : (cs[k]?).getD .u with
        | u => cases s <;> trivial
        | d _ => cases s <;> trivial
        | pin _ => cases s <;> trivial
        | own _ => cases s <;> trivial
        | io c =>
          have hc : cs[k]? = some (.io c) := by
            cases ec2 : cs[k]? with
            | none => rw [ec2] at ec; cases ec
            | some z => rw [ec2] at ec; exact congrArg some ec
          cases s with
          | u => trivial
          | d _ => trivial
          | pin _ => trivial
          | own c0 =>
            obtain ⟨a, u, h1, h2, h3, h4, h5⟩ := f2
            cases h1
            have hk : (as.map (argSC Γ))[k]? = some (.io c0) := by
              rw [List.getElem?_map, ek]
              show some (argSC Γ (.s i)) = _
              unfold argSC
              dsimp only
              rw [eg]
            obtain ⟨o, p1, p2, p3⟩ := q.io k a c c0 hk g1 hc
            exact ⟨a, o, rfl, p1, p2, p3, h5⟩
          | io c0 =>
            obtain ⟨a, u, h1, h2, h3, h4, h5⟩ := f2
            cases h1
            have hk : (as.map (argSC Γ))[k]? = some (.io c0) := by
              rw [List.getElem?_map, ek]
              show some (argSC Γ (.s i)) = _
              unfold argSC
              dsimp only
              rw [eg]
            obtain ⟨o, p1, p2, p3⟩ := q.io k a c c0 hk g1 hc
            exact ⟨a, o, rfl, p1, p2, p3, h5⟩
    · rw [back_out as cs Γ hi] at e
      obtain ⟨v, f1, f2⟩ := r.slot i c e
      refine ⟨v, f1, f2.keep q.gr fun a ea oc z => ?_⟩
      obtain ⟨k, j, s, e1, _, e3, o, e4⟩ := io_slot r h z
      have nij : i ≠ j := fun w => hi (by rw [w]; exact mem_slots e1)
      exact r.dis i j c s a nij e e3 oc o (by rw [f1, ea]) e4
  · obtain ⟨k, j, s, e1, _, e3, o, e4⟩ := io_slot r h z
    exact ap j s e3 o e4
end
@[simp] def dCall (np : Nat) (m : MF) (ta : TAd) : TD := fun Γ P E => ta Γ (fun as Γ1 => as.length = np ∧ (slotsOf as).Nodup ∧ m (as.map (argSC Γ1)) (fun r cs => match r with
  | .d x => P x (back Γ1 as cs)
  | .o (.lst xs) => P (.list xs) (back Γ1 as cs)
  | .o (.dic _) => False) fun x cs => E x (back Γ1 as cs)) E
@[simp] def oCall (np : Nat) (m : MF) (ta : TAd) : TOd := fun Γ P E => ta Γ (fun as Γ1 => as.length = np ∧ (slotsOf as).Nodup ∧ m (as.map (argSC Γ1)) (fun r cs => match r with
  | .o c => P c (back Γ1 as cs)
  | .d _ => False) fun x cs => E x (back Γ1 as cs)) E
theorem RX.exn {K : PySem.W.Frag} {mg : Str → Option Value} {G : Hp} {x : Exn} {cls : Value} {d : Option Addr} (h : RX K mg G x cls d) : RX K mg G x cls d := h
section
variable {X : Cx} {Z : Dx} {σ : St} {H : Hp} {Q : VK} {as : List Arg} {Γ1 : SS} {G1 : Hp} {vs : List V} {np : Nat} {m : MF}
theorem spD_call {pre : Hp → Prop} (hpre : pre G1) (r1 : Rl X.K Z.En Γ1 G1 σ H) (a1 : ARels X.K G1 σ vs as) (hl : as.length = np) (nd : (slotsOf as).Nodup) (P : Res → SS → Prop) (E : XKd) (hm : m (as.map (argSC Γ1)) (fun r cs => P r (back Γ1 as cs)) fun x cs => E x (back Γ1 as cs))
    (hQ : ∀ (r : Res) (Γ2 : SS) (G2 : Hp) (v : V) (H2 : Hp), P r Γ2 → Rl X.K Z.En Γ2 G2 σ H2 → Adv Γ1 σ G1 H Γ2 σ G2 H2 → RR X.K H G2 H2 v r → Q v H2) (hE : XA X Z Γ1 G1 σ H E) : spDG pre X.K X.mg Z.En.T np m vs H Q (WE Z.W σ) := by
  refine ⟨a1.length.trans hl, G1, _, _, _, hpre, r1.sub, r1.ntb, r1.tab, args_ok r1 a1 nd, hm, fun r cs G' v H' q post rr => ?_, fun x cs G' cls d H' q post rx => ?_⟩
  · obtain ⟨r2, a2⟩ := r1.after a1 nd post
    exact hQ r _ G' v H' q r2 a2 rr
  · obtain ⟨r2, a2⟩ := r1.after a1 nd post
    exact hE x _ G' cls d H' q r2 a2 rx
end
section
variable {X : Cx} {Z : Dx} {k np : Nat} {f : Addr} {fd : FuncData} {ps : List Str} {m : MF} {x : Str} {p pos : Pos} {e : Expr} {es : List Expr} {ta : TAd} {T : List (Addr × Str)}
theorem de_call (F : FnOk X.prog X.w X.K X.mg X.base (L2N.CX X.prog X.w) k f fd ps (spD X.K X.mg T np m)) (hT : Z.En.T = T) (hr : Room k X.A) (hg : Gl X x) (hm : X.mg x = some (.ref f)) (hk : PySem.W.keepIn X.K (.ref f) = true) (hb : Binds X.K fd ps []) (tk : L2N.Takes X Z.W)
    (ha : DA X Z (e :: es) ta) (hdb : (x == ("__debug__" : Str)) = false := by decide) (he : starEach (e :: es) X.env = (false, eval e X.env) :: starEach es X.env := by rfl) (hpl : (backTo pos (starEach es X.env)).any (·.1) = false := by rfl) :
    DE X Z (.Call (.Name x p) (e :: es) [] pos) (dCall np m ta) := by
  subst hT
  refine ⟨PE.imp (pe_callS F hr hg hm hk hb (fun σ => L2N.passAt tk σ) ha.pa hdb he hpl) fun σ H Q hh => ?_⟩
  obtain ⟨Γ, G, P, E, r, t, kk, xk⟩ := hh
  refine ⟨Γ, G, _, E, r, t, fun as Γ1 G1 vs H1 q1 r1 s1 a1 => ?_, xk⟩
  obtain ⟨hl, nd, q1⟩ := q1
  refine spD_call (pre := fun _ => True) trivial r1 a1 hl nd (fun r Γ2 => match r with
    | .d x => P x Γ2
    | .o (.lst xs) => P (.list xs) Γ2
    | .o (.dic _) => False) E q1 (fun rr Γ2 G2 v H2 q2 r2 a2 rel => ?_) (xk.up s1)
  cases rr with
  | d d => exact kk d Γ2 G2 v H2 q2 r2 (s1.trans a2) rel
  | o c =>
    cases c with
    | dic _ => exact q2.elim
    | lst xs =>
      obtain ⟨a, o, rfl, h0, h1, h2, h3⟩ := rel
      have w : OwnAt X.K Z.En Γ2 G2 σ H2 a (.lst xs) := ⟨⟨o, h1, h2⟩, h3, r1.freeE h0, a2.apart (r1.apart h0)⟩
      obtain ⟨o', r3, p3⟩ := w.freeze r2
      exact kk _ Γ2 _ _ H2 q2 r3 ((s1.trans a2).freeze (none_back s1 h0) h3) p3
theorem do_call (F : FnOk X.prog X.w X.K X.mg X.base (L2N.CX X.prog X.w) k f fd ps (spD X.K X.mg T np m)) (hT : Z.En.T = T) (hr : Room k X.A) (hg : Gl X x) (hm : X.mg x = some (.ref f)) (hk : PySem.W.keepIn X.K (.ref f) = true) (hb : Binds X.K fd ps []) (tk : L2N.Takes X Z.W)
    (ha : DA X Z (e :: es) ta) (hdb : (x == ("__debug__" : Str)) = false := by decide) (he : starEach (e :: es) X.env = (false, eval e X.env) :: starEach es X.env := by rfl) (hpl : (backTo pos (starEach es X.env)).any (·.1) = false := by rfl) :
    DO X Z (.Call (.Name x p) (e :: es) [] pos) (oCall np m ta) := by
  subst hT
  refine ⟨PE.imp (pe_callS F hr hg hm hk hb (fun σ => L2N.passAt tk σ) ha.pa hdb he hpl) fun σ H Q hh => ?_⟩
  obtain ⟨Γ, G, P, E, r, t, kk, xk⟩ := hh
  refine ⟨Γ, G, _, E, r, t, fun as Γ1 G1 vs H1 q1 r1 s1 a1 => ?_, xk⟩
  obtain ⟨hl, nd, q1⟩ := q1
  refine spD_call (pre := fun _ => True) trivial r1 a1 hl nd (fun r Γ2 => match r with
    | .o c => P c Γ2
    | .d _ => False) E q1 (fun rr Γ2 G2 v H2 q2 r2 a2 rel => ?_) (xk.up s1)
  cases rr with
  | d d => exact q2.elim
  | o c =>
    obtain ⟨a, o, rfl, h0, h1, h2, h3⟩ := rel
    exact kk c Γ2 G2 a H2 q2 r2 (s1.trans a2) ⟨⟨o, h1, h2⟩, h3, r1.freeE h0, a2.apart (r1.apart h0)⟩ (none_back s1 h0)
theorem do_callG {pre : Hp → Prop} (F : FnOk X.prog X.w X.K X.mg X.base (L2N.CX X.prog X.w) k f fd ps (spDG pre X.K X.mg T np m)) (hpre : ∀ G, Same Z.En.G G → pre G) (hT : Z.En.T = T) (hr : Room k X.A) (hg : Gl X x) (hm : X.mg x = some (.ref f)) (hk : PySem.W.keepIn X.K (.ref f) = true) (hb : Binds X.K fd ps []) (tk : L2N.Takes X Z.W)
    (ha : DA X Z (e :: es) ta) (hdb : (x == ("__debug__" : Str)) = false := by decide) (he : starEach (e :: es) X.env = (false, eval e X.env) :: starEach es X.env := by rfl) (hpl : (backTo pos (starEach es X.env)).any (·.1) = false := by rfl) :
    DO X Z (.Call (.Name x p) (e :: es) [] pos) (oCall np m ta) := by
  subst hT
  refine ⟨PE.imp (pe_callS F hr hg hm hk hb (fun σ => L2N.passAt tk σ) ha.pa hdb he hpl) fun σ H Q hh => ?_⟩
  obtain ⟨Γ, G, P, E, r, t, kk, xk⟩ := hh
  refine ⟨Γ, G, _, E, r, t, fun as Γ1 G1 vs H1 q1 r1 s1 a1 => ?_, xk⟩
  obtain ⟨hl, nd, q1⟩ := q1
  refine spD_call (hpre _ r1.gr.ext) r1 a1 hl nd (fun r Γ2 => match r with
    | .o c => P c Γ2
    | .d _ => False) E q1 (fun rr Γ2 G2 v H2 q2 r2 a2 rel => ?_) (xk.up s1)
  cases rr with
  | d d => exact q2.elim
  | o c =>
    obtain ⟨a, o, rfl, h0, h1, h2, h3⟩ := rel
    exact kk c Γ2 G2 a H2 q2 r2 (s1.trans a2) ⟨⟨o, h1, h2⟩, h3, r1.freeE h0, a2.apart (r1.apart h0)⟩ (none_back s1 h0)
/-- a call without arguments; nothing may be raised -/
@[simp] def dCall0 (m : MF) : TD := fun Γ P _ => m [] (fun r _ => match r with
  | .d x => P x Γ
  | .o (.lst xs) => P (.list xs) Γ
  | .o (.dic _) => False) no
theorem de_call0 (F : FnOk X.prog X.w X.K X.mg X.base (L2N.CX X.prog X.w) k f fd ps (spD X.K X.mg T 0 m)) (hT : Z.En.T = T) (hr : Room k X.A) (hg : Gl X x) (hm : X.mg x = some (.ref f)) (hk : PySem.W.keepIn X.K (.ref f) = true) (hb : Binds X.K fd ps []) (hdb : (x == ("__debug__" : Str)) = false := by decide) :
    DE X Z (.Call (.Name x p) [] [] pos) (dCall0 m) := by
  subst hT
  refine ⟨PE.imp (pe_call0 F hr hg hm hk hb .nil passLN hdb) fun σ H Q hh => ?_⟩
  obtain ⟨Γ, G, P, E, r, t, kk, xk⟩ := hh
  have z := spD_call (Z := Z.quiet) (H := H) (Q := Q) (m := m) (np := 0) (vs := []) (as := []) (pre := fun _ => True) trivial r .nil rfl List.nodup_nil (fun r Γ2 => match r with
    | .d x => P x Γ2
    | .o (.lst xs) => P (.list xs) Γ2
    | .o (.dic _) => False) no (by exact t) (fun rr Γ2 G2 v H2 q2 r2 a2 rel => ?_) xa_no
  · exact z
  · cases rr with
    | d d => exact kk d Γ2 G2 v H2 q2 r2 a2 rel
    | o c =>
      cases c with
      | dic _ => exact q2.elim
      | lst xs =>
        obtain ⟨a, o, rfl, h0, h1, h2, h3⟩ := rel
        have w : OwnAt X.K Z.En Γ2 G2 σ H2 a (.lst xs) := ⟨⟨o, h1, h2⟩, h3, r.freeE h0, a2.apart (r.apart h0)⟩
        obtain ⟨o', r3, p3⟩ := w.freeze r2
        exact kk _ Γ2 _ _ H2 q2 r3 (a2.freeze h0 h3) p3
end
end DL

set_option Elab.async false
set_option linter.all false
set_option maxRecDepth 100000
set_option maxHeartbeats 4000000
/-! The data layer, part 6: operations by values, built-in names, slices, own lists. -/
namespace DL
open PySem PySem.Spec PyProof.Rows L2

/-! ### operators -/
def isSc : PD → Bool
  | .none => true
  | .bool _ => true
  | .int _ => true
  | .str _ => true
  | _ => false
theorem Rp.sc {K : PySem.W.Frag} {G G' : Hp} {v : V} {d : PD} (h : Rp K G v d) (s : isSc d = true) : Rp K G' v d := by
  cases h with
  | non => exact .non
  | bl b => exact .bl b
  | int i => exact .int i
  | str x a b => exact .str x a b
  | lst _ _ => cases s
  | tup _ _ => cases s
@[simp] def opAdd : F2 := fun d e k => match d, e with
  | .int i, .int j => k (.int (i + j))
  | .tuple xs, .tuple ys => xs.length + ys.length ≤ sizeLine ∧ k (.tuple (xs ++ ys))
  | .list xs, .list ys => xs.length + ys.length ≤ sizeLine ∧ k (.list (xs ++ ys))
  | .str x, .str y => x.length + y.length ≤ sizeLine ∧ k (.str (x ++ y))
  | _, _ => False
abbrev rAddA (K : PySem.W.Frag) : R2 := fun x y H Q => (rI0 fun i j => .int (i + j)) x y H Q ∨ rCatA K x y H Q ∨ rCat x y H Q ∨ (∃ i j, x = .str i ∧ y = .str j ∧ i.length + j.length ≤ sizeLine ∧ Q (.str (i ++ j)) H)
theorem op_addA {X : Cx} : OpR X (binaryOp .Add) (rAddA X.K) := op_add.or (op_catA.or (op_cat.or op_add_str))
theorem strOk_app {x y : Str} (hx : PyData.strOk x = true) (hy : PyData.strOk y = true) : PyData.strOk (x ++ y) = true := by
  have e : (x ++ y).cps = x.cps ++ y.cps := rfl
  unfold PyData.strOk at *
  rw [e, Array.all_append, hx, hy]
  rfl
theorem str_len_app {x y : Str} : (x ++ y).length = x.length + y.length := by
  show (x.cps ++ y.cps).size = _
  rw [Array.size_append]
  rfl
section
variable {K : PySem.W.Frag} {G H G' H' : Hp} {xs : List V} {ds : List PD}
theorem tup_new {p : Addr} (s : Same G H) (hp : H p = none) (h : Rps K G xs ds) (hz : ds.length ≤ sizeLine) : Step G H (upd G p (.tup xs)) (upd H p (.tup xs)) ∧ Rp K (upd G p (.tup xs)) (.ref p) (.tuple ds) :=
  ⟨.new hp ntup, .tup (.of upd_same) (h.up (same_new (s.free hp))) hz⟩
theorem lst_new {p : Addr} (s : Same G H) (hp : H p = none) (h : Rps K G xs ds) (hz : ds.length ≤ sizeLine) : Step G H (upd G p (.lst xs)) (upd H p (.lst xs)) ∧ Rp K (upd G p (.lst xs)) (.ref p) (.list ds) :=
  ⟨.new hp nlst, .lst upd_same (h.up (same_new (s.free hp))) hz⟩
end
theorem v2_add {K : PySem.W.Frag} : V2 K (rAddA K) opAdd := by
  intro G H x y d e k Q s hx hy hf hk
  cases hx with
  | int i =>
    cases hy with
    | int j => exact .inl ⟨i, j, rfl, rfl, hk _ G H _ hf .rfl' (.int _)⟩
    | _ => exact hf.elim
  | str i a b =>
    cases hy with
    | str j a2 b2 => exact .inr (.inr (.inr ⟨i, j, rfl, rfl, hf.1, hk _ G H _ hf.2 .rfl' (.str _ (strOk_app a a2) (by rw [str_len_app]; exact hf.1))⟩))
    | _ => exact hf.elim
  | tup h t hz =>
    cases hy with
    | tup h2 t2 hz2 =>
      rename_i a vs ds a2 vs2 ds2
      refine .inr (.inl ⟨_, _, _, _, rfl, rfl, sqT_mono s h, sqT_mono s h2, by rw [t.length, t2.length]; exact hf.1, fun e => ?_, fun _ e => ?_, fun _ _ p hp => ?_⟩)
      · subst e
        cases t
        exact hk _ G H _ hf.2 .rfl' (.tup h2 t2 hz2)
      · subst e
        cases t2
        exact hk _ G H _ hf.2 .rfl' (by rw [List.append_nil]; exact .tup h t hz)
      · obtain ⟨st, rp⟩ := tup_new s hp (t.append t2) (by rw [List.length_append]; exact hf.1)
        exact hk _ _ _ _ hf.2 st rp
    | _ => exact hf.elim
  | lst h t hz =>
    cases hy with
    | lst h2 t2 hz2 =>
      refine .inr (.inr (.inl ⟨_, _, _, _, rfl, rfl, s _ _ h, s _ _ h2, by rw [t.length, t2.length]; exact hf.1, fun p hp => ?_⟩))
      obtain ⟨st, rp⟩ := lst_new s hp (t.append t2) (by rw [List.length_append]; exact hf.1)
      exact hk _ _ _ _ hf.2 st rp
    | _ => exact hf.elim
  | _ => exact hf.elim
/-- two ints -/
@[simp] def opI (C : Int → Int → Prop) (g : Int → Int → PD) : F2 := fun d e k => match d, e with
  | .int i, .int j => C i j ∧ k (g i j)
  | _, _ => False
theorem v2_I {K : PySem.W.Frag} {C : Int → Int → Prop} {g : Int → Int → V} {g' : Int → Int → PD} (hg : ∀ G i j, Rp K G (g i j) (g' i j)) : V2 K (rI C g) (opI C g') := by
  intro G H x y d e k Q s hx hy hf hk
  cases hx with
  | int i =>
    cases hy with
    | int j => exact ⟨i, j, rfl, rfl, hf.1, hk _ G H _ hf.2 .rfl' (hg G i j)⟩
    | _ => exact hf.elim
  | _ => exact hf.elim
@[simp] def opI0 (g : Int → Int → PD) : F2 := fun d e k => match d, e with
  | .int i, .int j => k (g i j)
  | _, _ => False
theorem v2_I0 {K : PySem.W.Frag} {g : Int → Int → V} {g' : Int → Int → PD} (hg : ∀ G i j, Rp K G (g i j) (g' i j)) : V2 K (rI0 g) (opI0 g') := by
  intro G H x y d e k Q s hx hy hf hk
  cases hx with
  | int i =>
    cases hy with
    | int j => exact ⟨i, j, rfl, rfl, hk _ G H _ hf .rfl' (hg G i j)⟩
    | _ => exact hf.elim
  | _ => exact hf.elim
@[simp] abbrev opSub : F2 := opI0 fun i j => .int (i - j)
@[simp] abbrev opFdiv : F2 := opI CDivW fun i j => .int (i / j)
@[simp] abbrev opMod : F2 := opI (fun _ j => 0 < j) fun i j => .int (i % j)
@[simp] abbrev opPow : F2 := opI CPow fun i j => .int (i ^ j.toNat)
@[simp] abbrev opLt : F2 := opI0 fun i j => .bool (decide (i < j))
@[simp] abbrev opLe : F2 := opI0 fun i j => .bool (decide (i ≤ j))
@[simp] abbrev opGt : F2 := opI0 fun i j => .bool (decide (j < i))
@[simp] abbrev opGe : F2 := opI0 fun i j => .bool (decide (j ≤ i))
section
variable {K : PySem.W.Frag}
theorem v2_sub : V2 K (rI0 fun i j => .int (i - j)) opSub := v2_I0 fun _ _ _ => .int _
theorem v2_fdiv : V2 K (rI CDivW fun i j => .int (i / j)) opFdiv := v2_I fun _ _ _ => .int _
theorem v2_mod : V2 K (rI (fun _ j => 0 < j) fun i j => .int (i % j)) opMod := v2_I fun _ _ _ => .int _
theorem v2_pow : V2 K (rI CPow fun i j => .int (i ^ j.toNat)) opPow := v2_I fun _ _ _ => .int _
theorem v2_lt : V2 K (rI0 fun i j => .bl (decide (i < j))) opLt := v2_I0 fun _ _ _ => .bl _
theorem v2_le : V2 K (rI0 fun i j => .bl (decide (i ≤ j))) opLe := v2_I0 fun _ _ _ => .bl _
theorem v2_gt : V2 K (rI0 fun i j => .bl (decide (j < i))) opGt := v2_I0 fun _ _ _ => .bl _
theorem v2_ge : V2 K (rI0 fun i j => .bl (decide (j ≤ i))) opGe := v2_I0 fun _ _ _ => .bl _
/-- == and != of any data -/
def opEq : F2 := fun d e k => min d.depth e.depth ≤ 64 ∧ k (.bool (PyData.eqv d e))
def opNe : F2 := fun d e k => min d.depth e.depth ≤ 64 ∧ k (.bool (!PyData.eqv d e))
def rEqP (K : PySem.W.Frag) : R2 := fun x y H Q => ∃ d e, Dp K H x d ∧ Dp K H y e ∧ d.canLay0 = true ∧ e.canLay0 = true ∧ min d.depth e.depth ≤ 64 ∧ Q (.bl (PyData.eqv d e)) H
def rNeP (K : PySem.W.Frag) : R2 := fun x y H Q => ∃ d e, Dp K H x d ∧ Dp K H y e ∧ d.canLay0 = true ∧ e.canLay0 = true ∧ min d.depth e.depth ≤ 64 ∧ Q (.bl (!PyData.eqv d e)) H
theorem op_eqP {X : Cx} (hu : X.A.units + 64 < cLine) : OpR X (compareOp .Eq) (rEqP X.K) := by
  intro pins s σ H x y v u Q I rx ry h
  obtain ⟨d, e, hd, he, cd, ce, hm, q⟩ := h
  obtain ⟨as, r1⟩ := Dp.reads I d x v hd rx
  obtain ⟨bs, r2⟩ := Dp.reads I e y u he ry
  exact SeqAt.compareEq_reads r1 r2 cd ce (by omega) ⟨.bl _, H, I, rfl, q⟩
theorem op_neP {X : Cx} (hu : X.A.units + 64 < cLine) : OpR X (compareOp .NotEq) (rNeP X.K) := by
  intro pins s σ H x y v u Q I rx ry h
  obtain ⟨d, e, hd, he, cd, ce, hm, q⟩ := h
  obtain ⟨as, r1⟩ := Dp.reads I d x v hd rx
  obtain ⟨bs, r2⟩ := Dp.reads I e y u he ry
  exact SeqAt.compareNe_reads r1 r2 cd ce (by omega) ⟨.bl _, H, I, rfl, q⟩
theorem v2_eq : V2 K (rEqP K) opEq := by
  intro G H x y d e k Q s hx hy hf hk
  obtain ⟨a, b⟩ := Rp.dp s d x hx
  obtain ⟨a2, b2⟩ := Rp.dp s e y hy
  exact ⟨d, e, a, a2, b, b2, hf.1, hk _ G H _ hf.2 .rfl' (.bl _)⟩
theorem v2_ne : V2 K (rNeP K) opNe := by
  intro G H x y d e k Q s hx hy hf hk
  obtain ⟨a, b⟩ := Rp.dp s d x hx
  obtain ⟨a2, b2⟩ := Rp.dp s e y hy
  exact ⟨d, e, a, a2, b, b2, hf.1, hk _ G H _ hf.2 .rfl' (.bl _)⟩
/-- is None, is not None -/
@[simp] def isNone : PD → Bool
  | .none => true
  | _ => false
@[simp] def opIsN : F2 := fun d e k => match e with
  | .none => k (.bool (isNone d))
  | _ => False
@[simp] def opNotN : F2 := fun d e k => match e with
  | .none => k (.bool (!isNone d))
  | _ => False
theorem isNone_of {G : Hp} {v : V} {d : PD} (h : Rp K G v d) : decide (v = .non) = isNone d := by
  cases h <;> simp [isNone]
theorem v2_isN : V2 K (fun x y H Q => y = .non ∧ Q (.bl (decide (x = .non))) H) opIsN := by
  intro G H x y d e k Q s hx hy hf hk
  cases hy with
  | non => exact ⟨rfl, hk _ G H _ hf .rfl' (by rw [isNone_of hx]; exact .bl _)⟩
  | _ => exact hf.elim
theorem v2_notN : V2 K (fun x y H Q => y = .non ∧ Q (.bl (!decide (x = .non))) H) opNotN := by
  intro G H x y d e k Q s hx hy hf hk
  cases hy with
  | non => exact ⟨rfl, hk _ G H _ hf .rfl' (by rw [isNone_of hx]; exact .bl _)⟩
  | _ => exact hf.elim
/-- is True, is False -/
@[simp] def isBl (b : Bool) : PD → Bool
  | .bool c => c == b
  | _ => false
@[simp] def opIsB : F2 := fun d e k => match e with
  | .bool b => k (.bool (isBl b d))
  | _ => False
theorem op_isB {X : Cx} : OpR X (compareOp .Is) (fun x y H Q => ∃ b, y = .bl b ∧ (∀ a, x ≠ .flt a) ∧ (∀ a, x ≠ .byt a) ∧ (∀ a, x ≠ .ty a) ∧ Q (.bl (decide (x = .bl b))) H) := by
  intro pins s σ H x y v u Q I rx ry h
  obtain ⟨b, rfl, n1, n2, n3, q⟩ := h
  cases (show u = Value.bool b from ry)
  cases x with
  | non => cases rx; exact wpAny_is_other rfl (fun z => nomatch z) ⟨.bl false, H, I, rfl, by simpa using q⟩
  | bl c =>
    cases rx
    by_cases e : c = b
    · subst e
      exact wpAny_is_self rfl ⟨.bl true, H, I, rfl, by simpa using q⟩
    · exact wpAny_is_other rfl (fun z => e (Value.bool.inj z)) ⟨.bl false, H, I, rfl, by simpa [e] using q⟩
  | int i => obtain ⟨t, rfl⟩ := rx; exact wpAny_is_other rfl (fun z => nomatch z) ⟨.bl false, H, I, rfl, by simpa using q⟩
  | str i => obtain ⟨t, rfl⟩ := rx; exact wpAny_is_other rfl (fun z => nomatch z) ⟨.bl false, H, I, rfl, by simpa using q⟩
  | ref a => cases rx; exact wpAny_is_other rfl (fun z => nomatch z) ⟨.bl false, H, I, rfl, by simpa using q⟩
  | flt a => exact absurd rfl (n1 a)
  | byt a => exact absurd rfl (n2 a)
  | ty a => exact absurd rfl (n3 a)
theorem v2_isB : V2 K (fun x y H Q => ∃ b, y = .bl b ∧ (∀ a, x ≠ .flt a) ∧ (∀ a, x ≠ .byt a) ∧ (∀ a, x ≠ .ty a) ∧ Q (.bl (decide (x = .bl b))) H) opIsB := by
  intro G H x y d e k Q s hx hy hf hk
  cases hy with
  | bl b =>
    refine ⟨b, rfl, fun a z => ?_, fun a z => ?_, fun a z => ?_, hk _ G H _ hf .rfl' ?_⟩
    · subst z; cases hx
    · subst z; cases hx
    · subst z; cases hx
    · have e : decide (x = .bl b) = isBl b d := by
        cases hx <;> simp [isBl]
        rename_i c
        cases c <;> cases b <;> rfl
      rw [e]
      exact .bl _
  | _ => exact hf.elim
/-- a subscript -/
@[simp] def opIx : F2 := fun d e k => match d, e with
  | .tuple xs, .int i => (match atI xs i with
    | some v => k v
    | none => False)
  | .list xs, .int i => (match atI xs i with
    | some v => k v
    | none => False)
  | .str x, .int i => (match atI x.cps.toList i with
    | some c => k (.str ⟨#[c]⟩)
    | none => False)
  | _, _ => False
theorem atI_rps {G : Hp} {vs : List V} {ds : List PD} {i : Int} {d : PD} (h : Rps K G vs ds) (e : atI ds i = some d) : ∃ v, atI vs i = some v ∧ Rp K G v d := by
  unfold atI at e ⊢
  rw [h.length]
  cases ej : ixN ds.length i with
  | none => rw [ej] at e; cases e
  | some j =>
    rw [ej] at e
    exact h.getD e
theorem sign_ok {x : Str} {i : Int} {c : Nat} (h : PyData.strOk x = true) (e : atI x.cps.toList i = some c) : PyData.strOk ⟨#[c]⟩ = true := by
  obtain ⟨j, _, e1, _⟩ := atI_get e
  unfold PyData.strOk at h ⊢
  have := List.all_eq_true.mp (by rw [Array.all_toList]; exact h) c (List.mem_of_getElem? e1)
  simpa using this
theorem v2_ix : V2 K (rIx K) opIx := by
  intro G H x y d e k Q s hx hy hf hk
  cases hx with
  | tup h t hz =>
    cases hy with
    | int i =>
      unfold opIx at hf
      dsimp only at hf
      split at hf
      · rename_i z e
        obtain ⟨v, e1, p1⟩ := atI_rps t e
        exact .inr (.inl ⟨_, _, i, v, rfl, rfl, sqT_mono s h, e1, hk _ G H v hf .rfl' p1⟩)
      · exact hf.elim
    | _ => exact hf.elim
  | lst h t hz =>
    cases hy with
    | int i =>
      unfold opIx at hf
      dsimp only at hf
      split at hf
      · rename_i z e
        obtain ⟨v, e1, p1⟩ := atI_rps t e
        exact .inl ⟨_, _, i, v, rfl, rfl, sqL_of h s, e1, hk _ G H v hf .rfl' p1⟩
      · exact hf.elim
    | _ => exact hf.elim
  | str z a b =>
    cases hy with
    | int i =>
      unfold opIx at hf
      dsimp only at hf
      split at hf
      · rename_i c e
        exact .inr (.inr ⟨z, i, c, rfl, rfl, b, e, hk _ G H _ hf .rfl' (.str _ (sign_ok a e) (by show 1 ≤ sizeLine; decide))⟩)
      · exact hf.elim
    | _ => exact hf.elim
  | _ => exact hf.elim
theorem v1_neg : V1 K (rU fun i => .int (-i)) (fun d k => match d with | .int i => k (.int (-i)) | _ => False) := by
  intro G H x d k Q s hx hf hk
  cases hx with
  | int i => exact ⟨i, rfl, hk _ G H _ hf .rfl' (.int _)⟩
  | _ => exact hf.elim
end
@[simp] abbrev opNeg : F1 := fun d k => match d with
  | .int i => k (.int (-i))
  | _ => False
/-! ### in, not in: flat items in a list or a tuple -/
def flatD : PD → Bool
  | .none => true
  | .bool _ => true
  | .int _ => true
  | .str _ => true
  | _ => false
def inD (d : PD) (xs : List PD) : Bool := xs.any fun y => PyData.eqv y d
def opIn (neg : Bool) : F2 := fun d e k => match e with
  | .tuple xs => flatD d = true ∧ xs.all flatD = true ∧ k (.bool (if neg then !inD d xs else inD d xs))
  | .list xs => flatD d = true ∧ xs.all flatD = true ∧ k (.bool (if neg then !inD d xs else inD d xs))
  | _ => False
section
variable {K : PySem.W.Frag} {G : Hp}
theorem flat_of {v : V} {d : PD} (h : Rp K G v d) : flatV v = flatD d := by
  cases h <;> rfl
theorem eqV_of {v w : V} {d e : PD} (h : Rp K G v d) (h2 : Rp K G w e) (f : flatD d = true) (g : flatD e = true) : eqV v w = PyData.eqv d e := by
  cases h <;> cases h2 <;> first | (cases f; done) | (cases g; done) | rfl | (simp [eqV, PyData.eqv]; done) | skip
theorem all_flat : ∀ {vs : List V} {ds : List PD}, Rps K G vs ds → vs.all flatV = ds.all flatD
  | [], [], _ => rfl
  | [], _ :: _, h => by cases h
  | _ :: _, [], h => by cases h
  | v :: vs, d :: ds, h => by
    cases h with
    | cons h t => rw [List.all_cons, List.all_cons, flat_of h, all_flat t]
theorem inV_of {v : V} {d : PD} (h : Rp K G v d) (f : flatD d = true) : ∀ {vs : List V} {ds : List PD}, Rps K G vs ds → ds.all flatD = true → inV v vs = inD d ds
  | [], [], _, _ => rfl
  | [], _ :: _, h, _ => by cases h
  | _ :: _, [], h, _ => by cases h
  | w :: vs, e :: ds, t, g => by
    cases t with
    | cons h2 t =>
      rw [List.all_cons, Bool.and_eq_true] at g
      have e1 : inV v (w :: vs) = (eqV w v || inV v vs) := rfl
      have e2 : inD d (e :: ds) = (PyData.eqv e d || inD d ds) := rfl
      rw [e1, e2, eqV_of h2 h g.1 f, inV_of h f t g.2]
theorem v2_in {neg : Bool} : V2 K (rIn K neg) (opIn neg) := by
  intro G H x y d e k Q s hx hy hf hk
  cases hy with
  | tup h t hz =>
    obtain ⟨f1, f2, f3⟩ := hf
    refine ⟨_, _, rfl, .inr (sqT_mono s h), by rw [flat_of hx]; exact f1, by rw [all_flat t]; exact f2, hk _ G H _ f3 .rfl' ?_⟩
    rw [inV_of hx f1 t f2]
    exact .bl _
  | lst h t hz =>
    obtain ⟨f1, f2, f3⟩ := hf
    refine ⟨_, _, rfl, .inl (sqL_of h s), by rw [flat_of hx]; exact f1, by rw [all_flat t]; exact f2, hk _ G H _ f3 .rfl' ?_⟩
    rw [inV_of hx f1 t f2]
    exact .bl _
  | _ => exact hf.elim
end
end DL

set_option Elab.async false
set_option linter.all false
set_option maxRecDepth 100000
set_option maxHeartbeats 4000000
/-! The data layer, part 7: products, chains, slices, built-in names. -/
namespace DL
open PySem PySem.Spec PyProof.Rows L2

/-! ### a tuple times one -/
theorem tuple_mul1 (l : Addr) (items : Array Value) (n : Nat) (dd : Option Addr) (sl : Array (Option Value)) (u : Tok) :
    Meets (Builtin.«tuple.__mul__» ⟨[.ref l, .int 1 u], []⟩) (fun _ R s => s.heap.get? l = some { cls := .type "tuple", dict := dd, data := .seq items n, slots := sl } ∧ R (.ok (.ret (Value.ref l))) s) :=
  .of_wp fun prog w A R s h => by
    obtain ⟨hp, g, d, tk, os⟩ := s
    obtain ⟨hl, h⟩ := h
    have f1 := AutoSeq1.idx_int
    have c1 : (items.isEmpty || (1 : Int) == 1) = true := by simp
    have c0 : (decide ((1 : Int) < -(2 ^ 63)) || decide ((1 : Int) ≥ 2 ^ 63)) = false := by decide
    wp_walk using wpAny_loadPart' hl
    repeat (first
      | (refine wpAny_ite_false (decide_eq_false (by rw [c0]; exact Bool.false_ne_true)) ?_; wp_walk using wpAny_loadPart' hl)
      | (refine wpAny_ite_true (decide_eq_true c1) ?_; wp_walk using wpAny_loadPart' hl))
    all_goals first | exact ⟨_, rfl, h⟩ | skip
def rRep1 (K : PySem.W.Frag) : R2 := fun x y H Q => ∃ l xs, x = .ref l ∧ y = .int 1 ∧ SqT K H l xs ∧ Q (.ref l) H
theorem op_rep1 {X : Cx} : OpR X (binaryOp .Mult) (rRep1 X.K) := by
  intro pins s σ H x y v u Q I rx ry h
  obtain ⟨l, xs, rfl, rfl, hT, q⟩ := h
  cases rx
  obtain ⟨t, rfl⟩ := ry
  obtain ⟨its, r, ⟨⟨cls, dd, data, sl⟩, ho, hc, n, hd⟩, hs⟩ := I.tuple hT
  simp only at hc hd
  subst hc hd
  exact wpAny_binaryOp_repeat_ref (T := "tuple") (U := "int") (by decide) ⟨_, ho, rfl⟩ (fun s' => typeIs_int s' 1 t) noFill_tuple_mul F.fills_int_mul F.slot_int_rmul repeat_tuple F.slot_int_index.lookup
    (call_meets F.slot_int_rmul (typeIs_int s 1 t) F.entry_int_rmul (F.args_int_rmul_2 _ _) (int_rmul_tuple 1 t l its.toArray n dd sl)
      ⟨ho, rfl, ⟨_, ho, rfl⟩, call_meets F.slot_tuple_mul ⟨_, ho, rfl⟩ F.entry_tuple_mul (F.args_tuple_mul_2 _ _) (tuple_mul1 l its.toArray n dd sl t) ⟨ho, ⟨.ref l, H, I, rfl, q⟩⟩⟩)
def repD (n : Int) (xs : List PD) : List PD := (List.replicate n.toNat xs).flatten
@[simp] def opMul : F2 := fun d e k => match d, e with
  | .int i, .int j => CMulW i j ∧ k (.int (i * j))
  | .tuple xs, .int n => 1 ≤ n ∧ n ≤ 1000 ∧ xs ≠ [] ∧ xs.length ≤ 1000 ∧ k (.tuple (repD n xs))
  | .list xs, .int n => -(2 ^ 63) ≤ n ∧ n < 2 ^ 63 ∧ xs.length * n.toNat ≤ sizeLine ∧ k (.list (repD n xs))
  | _, _ => False
abbrev rMulA (K : PySem.W.Frag) : R2 := fun x y H Q => (rI CMulW fun i j => .int (i * j)) x y H Q ∨ rRepT K x y H Q ∨ rRep1 K x y H Q ∨ rRep x y H Q
theorem op_mulA {X : Cx} : OpR X (binaryOp .Mult) (rMulA X.K) := op_mulW.or (op_repT.or (op_rep1.or op_rep))
theorem repD_len {n : Int} {xs : List PD} : (repD n xs).length = n.toNat * xs.length := by
  unfold repD
  rw [PyProof.Rows.lm_len_rep_flat]
theorem v2_mul {K : PySem.W.Frag} : V2 K (rMulA K) opMul := by
  intro G H x y d e k Q s hx hy hf hk
  cases hx with
  | int i =>
    cases hy with
    | int j => exact .inl ⟨i, j, rfl, rfl, hf.1, hk _ G H _ hf.2 .rfl' (.int _)⟩
    | _ => exact hf.elim
  | @tup a vs ds h t hz =>
    cases hy with
    | int n =>
      obtain ⟨h1, h2, h3, h4, q⟩ := hf
      by_cases e1 : n = 1
      · subst e1
        refine .inr (.inr (.inl ⟨_, _, rfl, rfl, sqT_mono s h, hk _ G H _ q .rfl' ?_⟩))
        have : repD 1 ds = ds := by simp [repD]
        rw [this]
        exact .tup h t hz
      · have hl : (repD n ds).length ≤ sizeLine := by
          rw [repD_len, sizeLine_eq]
          have a1 : n.toNat * ds.length ≤ 1000 * 1000 := Nat.mul_le_mul (by omega) h4
          omega
        refine .inr (.inl ⟨_, _, _, rfl, rfl, sqT_mono s h, fun z => h3 ?_, by omega, h2, by rw [t.length]; exact h4, fun p hp => ?_⟩)
        · subst z
          cases t
          rfl
        · obtain ⟨st, rp⟩ := tup_new s hp (t.flat n.toNat) hl
          exact hk _ _ _ _ q st rp
    | _ => exact hf.elim
  | lst h t hz =>
    cases hy with
    | int n =>
      obtain ⟨h1, h2, h3, q⟩ := hf
      refine .inr (.inr (.inr ⟨_, _, _, rfl, rfl, s _ _ h, h1, h2, by rw [t.length]; exact h3, fun p hp => ?_⟩))
      obtain ⟨st, rp⟩ := lst_new s hp (t.flat n.toNat) (by have := repD_len (n := n) (xs := (by assumption : List PD)); rw [PyProof.Rows.lm_len_rep_flat, Nat.mul_comm]; exact h3)
      exact hk _ _ _ _ q st rp
    | _ => exact hf.elim
  | _ => exact hf.elim

/-! ### chains -/
section
variable {X : Cx} {Z : Dx} {a b c e : Expr} {es : List Expr} {ta tb tc te : TD} {pos p2 : Pos}
theorem chain_imp {r r' : R2} {f f' : F2} (hv : V2 X.K r f) (hv' : V2 X.K r' f') {σ : St} {H : Hp} {Q : VK} (hh : lfE X Z (dChain f f' ta tb tc) σ H Q) : tChain r r' (lfE X Z ta) (lfE X Z tb) (lfE X Z tc) σ H Q := by
  obtain ⟨Γ, G, P, E, r, t, k, x⟩ := hh
  refine ⟨Γ, G, _, E, r, t, fun d Γ1 G1 v1 H1 q1 r1 s1 p1 => ⟨Γ1, G1, _, E, r1, q1, fun e Γ2 G2 v2 H2 q2 r2 s2 p2 => ?_, x.up s1⟩, x⟩
  refine hv G2 H2 v1 v2 d e _ _ r2.sub (p1.up s2.same) p2 q2 fun z G3 H3 v3 q3 st p3 => ?_
  have s3 := (s1.trans s2).trans (Adv.step r2 st)
  have r3 := r2.stp st
  cases z with
  | bool z =>
    refine ⟨z, p3.bl_inv, ?_⟩
    cases z with
    | false =>
      rw [if_neg Bool.false_ne_true]
      exact k _ Γ2 G3 _ H3 q3 r3 s3 (.bl _)
    | true =>
      rw [if_pos rfl]
      refine ⟨Γ2, G3, _, E, r3, q3, fun g Γ4 G4 v4 H4 q4 r4 s4 p4 => ?_, x.up s3⟩
      have p5 := (p2.up ((Adv.step r2 st).same)).up s4.same
      exact hv' G4 H4 v2 v4 e g _ _ r4.sub p5 p4 q4 fun w G5 H5 v5 q5 st5 p6 => k w Γ4 G5 v5 H5 q5 (r4.stp st5) ((s3.trans s4).trans (.step r4 st5)) p6
  | _ => exact q3.elim
theorem de_chain {op op' : CmpOp} {r r' : R2} {f f' : F2} (ho : OpR X (compareOp op) r) (hv : V2 X.K r f) (ho' : OpR X (compareOp op') r') (hv' : V2 X.K r' f') (ha : DE X Z a ta) (hb : DE X Z b tb) (hc : DE X Z c tc)
    (hm : lastMarks [op, op'] [b, c] = false := by with_unfolding_all rfl) : DE X Z (.Compare a [op, op'] [b, c] pos) (dChain f f' ta tb tc) :=
  ⟨PE.imp (pe_chain ho ho' ha.pe hb.pe hc.pe hm) fun σ H Q hh => chain_imp hv hv' hh⟩
theorem dt_chain {op op' : CmpOp} {r r' : R2} {f f' : F2} (ho : OpR X (compareOp op) r) (hv : V2 X.K r f) (ho' : OpR X (compareOp op') r') (hv' : V2 X.K r' f') (ha : DE X Z a ta) (hb : DE X Z b tb) (hc : DE X Z c tc)
    (hm : lastMarks [op, op'] [b, c] = false := by with_unfolding_all rfl) : DT X Z (.Compare a [op, op'] [b, c] pos) (dTst (dChain f f' ta tb tc)) := by
  refine ⟨PT.imp (pt_chain ho ho' ha.pe hb.pe hc.pe hm) fun σ H Q hh => ?_⟩
  refine chain_imp hv hv' ?_
  obtain ⟨Γ, G, P, E, r, t, k, x⟩ := hh
  refine ⟨Γ, G, _, E, r, t, fun d Γ1 G1 v1 H1 q1 r1 s1 p1 => ?_, x⟩
  cases d with
  | bool b => exact ⟨b, p1.bl_inv, k b Γ1 G1 H1 q1 r1 s1⟩
  | _ => exact q1.elim

/-! ### slices -/
abbrev TPd := SS → (Option Int → SS → Prop) → XKd → Prop
def lfP (X : Cx) (Z : Dx) (t : TPd) : TO := fun σ H Q => ∃ (Γ : SS) (G : Hp) (P : Option Int → SS → Prop) (E : XKd), Rl X.K Z.En Γ G σ H ∧ t Γ P E ∧
  (∀ (o : Option Int) (Γ' : SS) (G' : Hp) (H' : Hp), P o Γ' → Rl X.K Z.En Γ' G' σ H' → Adv Γ σ G H Γ' σ G' H' → Q o H') ∧ XA X Z Γ G σ H E
structure DP (X : Cx) (Z : Dx) (e : Option Expr) (t : TPd) : Prop where
  po : PO X e (lfP X Z t)
theorem PO.imp {e : Option Expr} {t t' : TO} (h : PO X e t) (i : ∀ σ H Q, t' σ H Q → t σ H Q) : PO X e t' := ⟨fun pins s σ H Q I hw => h.run pins s σ H Q I (i σ H Q hw)⟩
@[simp] def dpN : TPd := fun Γ P _ => P none Γ
@[simp] def dpS (t : TD) : TPd := fun Γ P E => t Γ (fun d Γ1 => match d with
  | .int i => P (some i) Γ1
  | _ => False) E
theorem dp_none : DP X Z none dpN := ⟨PO.imp po_none fun σ H Q ⟨Γ, G, P, E, r, t, k, x⟩ => k none Γ G H t r .refl⟩
theorem dp_some (h : DE X Z e te) : DP X Z (some e) (dpS te) := by
  refine ⟨PO.imp (po_some h.pe) fun σ H Q hh => ?_⟩
  obtain ⟨Γ, G, P, E, r, t, k, x⟩ := hh
  refine ⟨Γ, G, _, E, r, t, fun d Γ1 G1 v1 H1 q1 r1 s1 p1 => ?_, x⟩
  cases d with
  | int i => exact ⟨i, p1.int_inv, k _ Γ1 G1 H1 q1 r1 s1⟩
  | _ => exact q1.elim
def cutD {α : Type} (xs : List α) (lo hi : Option Int) : List α := (xs.drop (HT.sIx xs.length 0 lo)).take (HT.sIx xs.length xs.length hi - HT.sIx xs.length 0 lo)
theorem Rps.cut {K : PySem.W.Frag} {G : Hp} {vs : List V} {ds : List PD} (h : Rps K G vs ds) (lo hi : Option Int) : Rps K G (cutV vs lo hi) (cutD ds lo hi) := by
  unfold cutV cutD
  rw [h.length]
  exact (h.drop _).take _
theorem cutD_length {α : Type} (xs : List α) (lo hi : Option Int) : (cutD xs lo hi).length ≤ xs.length := by
  unfold cutD
  rw [List.length_take, List.length_drop]
  omega
theorem cutD_all {α : Type} {xs : List α} {lo hi : Option Int} (h : HT.sIx xs.length 0 lo = 0 ∧ HT.sIx xs.length xs.length hi = xs.length) : cutD xs lo hi = xs := by
  unfold cutD
  rw [h.1, h.2]
  simp
@[simp] def slD (d : PD) (lo hi : Option Int) : Option PD := match d with
  | .tuple xs => some (.tuple (cutD xs lo hi))
  | .list xs => some (.list (cutD xs lo hi))
  | .str z => some (.str (cutS z lo hi))
  | _ => none
@[simp] def dSl (te : TD) (tl th : TPd) : TD := fun Γ P E => te Γ (fun d Γ1 => tl Γ1 (fun lo Γ2 => th Γ2 (fun hi Γ3 => match slD d lo hi with
  | some z => P z Γ3
  | none => False) E) E) E
abbrev rSlD (K : PySem.W.Frag) : V → Option Int → Option Int → Hp → VK → Prop := fun x lo hi H Q => rSlA K x lo hi H Q ∨ rSlL K x lo hi H Q ∨ rSlS x lo hi H Q
theorem strOk_cut {x : Str} {lo hi : Option Int} (h : PyData.strOk x = true) : PyData.strOk (cutS x lo hi) = true := by
  unfold PyData.strOk at *
  rw [← Array.all_toList] at *
  show (((x.cps.toList.drop (HT.sIx x.length 0 lo)).take (HT.sIx x.length x.length hi - HT.sIx x.length 0 lo)).toArray).toList.all _ = true
  rw [List.all_eq_true] at *
  intro c hc
  have hc2 : c ∈ (x.cps.toList.drop (HT.sIx x.length 0 lo)).take (HT.sIx x.length x.length hi - HT.sIx x.length 0 lo) := by simpa using hc
  exact h c (List.mem_of_mem_drop (List.mem_of_mem_take hc2))
theorem de_sl {lo hi : Option Expr} {tl th : TPd} (he : DE X Z e te) (hl : DP X Z lo tl) (hu : DP X Z hi th) : DE X Z (.Subscript e (.Slice lo hi none p2) pos) (dSl te tl th) := by
  refine ⟨PE.imp (pe_slice (r := rSlD X.K) (sl_tupA.or (sl_list.or sl_str)) he.pe hl.po hu.po) fun σ H Q hh => ?_⟩
  obtain ⟨Γ, G, P, E, r, t, k, x⟩ := hh
  refine ⟨Γ, G, _, E, r, t, fun d Γ1 G1 v1 H1 q1 r1 s1 p1 => ⟨Γ1, G1, _, E, r1, q1, fun lo Γ2 G2 H2 q2 r2 s2 => ⟨Γ2, G2, _, E, r2, q2, fun hi Γ3 G3 H3 q3 r3 s3 => ?_, x.up (s1.trans s2)⟩, x.up s1⟩, x⟩
  have s4 := (s1.trans s2).trans s3
  have p3 := (p1.up s2.same).up s3.same
  cases p3 with
  | @tup a vs ds h t hz =>
    refine .inl ⟨a, vs, rfl, sqT_mono r3.sub h, fun hw => ?_, fun hw p hp => ?_⟩
    · rw [t.length] at hw
      have q3' : P (.tuple (cutD ds lo hi)) Γ3 := q3
      rw [cutD_all hw] at q3'
      exact k _ Γ3 G3 _ H3 q3' r3 s4 (.tup h t hz)
    · obtain ⟨st, rp⟩ := tup_new r3.sub hp (t.cut lo hi) (Nat.le_trans (cutD_length ds lo hi) hz)
      exact k _ Γ3 _ _ _ q3 (r3.stp st) (s4.trans (.step r3 st)) rp
  | @lst a vs ds h t hz =>
    refine .inr (.inl ⟨a, vs, rfl, sqL_of h r3.sub, fun p hp => ?_⟩)
    obtain ⟨st, rp⟩ := lst_new r3.sub hp (t.cut lo hi) (Nat.le_trans (cutD_length ds lo hi) hz)
    exact k _ Γ3 _ _ _ q3 (r3.stp st) (s4.trans (.step r3 st)) rp
  | str z a b => exact .inr (.inr ⟨z, rfl, b, k _ Γ3 G3 _ H3 q3 r3 s4 (.str _ (strOk_cut a) (Nat.le_trans (cutS_length z lo hi) b))⟩)
  | _ => exact q3.elim
end
end DL

set_option Elab.async false
set_option linter.all false
set_option maxRecDepth 100000
set_option maxHeartbeats 4000000
/-! The data layer, part 8: a tuple turned about, built-in names, own lists. -/
namespace DL
open PySem PySem.Spec PyProof.Rows L2

/-! ### t[::-1] -/
theorem sliceApplied_rev {prog : Program} {w : World} {A : Around} {E : Value → Shared → Prop} {s : Shared} {sl : Addr} {vs : Value} {n : Nat} {Q : Int × Int × Nat → Shared → Prop} (hs : s.heap.IsSliceOf sl .none .none vs) (ps : IsPart vs (some (-1)))
    (h : Q ((n : Int) - 1, -1, n) s) : wpAny (model prog w) A (Builtin.Slice.sliceApplied (.ref sl) (pure (n : Int))) Q E s := by
  obtain ⟨os, hos, hcs, hds⟩ := id hs
  unfold Builtin.Slice.sliceApplied Builtin.Slice.sliceFields
  refine wpAny_bind (wpAny_bind (wpAny_field hos hds (x := .none) rfl (wpAny_bind (wpAny_field hos hds (x := .none) rfl (wpAny_bind (wpAny_field hos hds (x := vs) rfl (wpAny_pure ?_)))))))
  refine wpAny_bind (HT.slicePart_ ps ?_)
  show wpAny _ _ (if ((-1 : Int) == 0) = true then _ else _) _ _ s
  rw [if_neg (by decide)]
  refine wpAny_bind (slicePart_none (wpAny_bind (slicePart_none (wpAny_bind (wpAny_pure ?_)))))
  show wpAny _ _ (pure ((n : Int) - 1, (-1 : Int), Builtin.Slice.slicePlaces ((n : Int) - 1) (-1) (-1))) _ _ s
  have e : Builtin.Slice.slicePlaces ((n : Int) - 1) (-1) (-1) = n := by
    unfold Builtin.Slice.slicePlaces
    have h1 : ¬ ((-1 : Int) > 0) := by decide
    simp only [h1, if_false]
    by_cases hn : n = 0
    · subst hn; decide
    · have h2 : (n : Int) - 1 > -1 := by omega
      simp only [h2, if_true]
      have h3 : ((n : Int) - 1 - -1 - 1) / (- -1) = (n : Int) - 1 := by
        rw [show - -(1 : Int) = 1 from rfl, Int.ediv_one]
        omega
      rw [h3]
      omega
  rw [e]
  exact wpAny_pure h
theorem pick_rev (xs : Array Value) : ((List.range xs.size).filterMap fun (m : Nat) => xs[(((xs.size : Nat) : Int) - 1 + (m : Int) * (-1)).toNat]?).toArray = xs.toList.reverse.toArray := by
  apply congrArg List.toArray
  apply List.ext_getElem?
  intro i
  have key : ∀ (l : List Nat), (∀ m ∈ l, m < xs.size) → l.filterMap (fun (m : Nat) => xs[(((xs.size : Nat) : Int) - 1 + (m : Int) * (-1)).toNat]?) = l.map (fun m => xs.toList.getD (xs.size - 1 - m) .none) := by
    intro l hl
    induction l with
    | nil => rfl
    | cons m l ih =>
      have hm := hl m (by simp)
      have e1 : (((xs.size : Nat) : Int) - 1 + (m : Int) * (-1)).toNat = xs.size - 1 - m := by omega
      have e2 : xs[xs.size - 1 - m]? = some (xs.toList.getD (xs.size - 1 - m) .none) := by
        have hlt : xs.size - 1 - m < xs.size := by omega
        simp [List.getD, hlt]
      rw [List.filterMap_cons, e1, e2, List.map_cons]
      exact congrArg _ (ih fun k hk => hl k (by simp [hk]))
  rw [key _ (fun m hm => List.mem_range.mp hm)]
  by_cases hi : i < xs.size
  · rw [List.getElem?_map, List.getElem?_range hi, List.getElem?_reverse (by simpa using hi)]
    simp [List.getD, show xs.size - 1 - i < xs.size by omega]
  · rw [List.getElem?_eq_none (by simpa using hi), List.getElem?_eq_none (by simpa using hi)]
theorem getItem_tuple_rev {prog : Program} {w : World} {A : Around} {E : Value → Shared → Prop} {s : Shared} {t sl : Addr} {items : Array Value} {vs : Value} {Q : Value → Shared → Prop} (ht : IsTup s.heap t items) (hs : s.heap.IsSliceOf sl .none .none vs) (ps : IsPart vs (some (-1)))
    (h : Q (.ref s.heap.objs.size) { s with heap := s.heap.push { cls := .type "tuple", data := .seq items.toList.reverse.toArray } })
    (hsz : items.size ≤ sizeLine) : wpAny (model prog w) A (getItem (.ref t) (.ref sl)) Q E s := by
  have htake : sizeOk (.seq items.toList.reverse.toArray) := by
    show items.toList.reverse.toArray.size ≤ sizeLine
    simpa using hsz
  obtain ⟨os, hos, hcs, hds⟩ := id hs
  have hTs : s.TypeIs (.ref sl) "slice" := ⟨os, hos, hcs⟩
  unfold getItem
  try with_reducible refine wpAny_holding ?_
  first | refine wpAny_bind (wpAny_pure ?_) | skip
  refine wpAny_bind (wpAny_sequenceKey ht.typeIs (by decide) ?_)
  refine wpAny_bind (wpAny_callSpecial?_slot (name := Str.ofString "__getitem__") ht.typeIs PyProof.Rows.slot_tuple_getitem
    (wpAny_call_entry PyProof.Rows.slot_tuple_getitem ht.typeIs entry_tuple_getitem ?_ (args_tuple_getitem _ _)))
  show wpAny _ _ (Builtin.Tuple.tupleItemsOf (.ref t) >>= _) _ _ s
  refine wpAny_bind (tupleItemsOf_ ht ?_)
  refine wpAny_bind (wpAny_typeOf hTs ?_)
  rw [if_pos (by decide)]
  refine wpAny_bind (sliceApplied_rev hs ps ?_)
  have hno : ¬ ((((items.size : Int) - 1) == 0 && (-1 : Int) == 1 && items.size == items.size) = true) := by
    intro q
    rw [Bool.and_eq_true, Bool.and_eq_true] at q
    exact absurd q.1.2 (by decide)
  show wpAny _ _ (if (((items.size : Int) - 1) == 0 && (-1 : Int) == 1 && items.size == items.size) = true then _ else _) _ _ s
  rw [if_neg hno, pick_rev]
  first
    | exact wpAny_bind (m := Builtin.Tuple.tupleExact _) (wpAny_newObj_type (wpAny_pure ⟨_, rfl, wpAny_pure h⟩) htake)
    | exact wpAny_bind (m := Builtin.Tuple.tupleExact _) (wpAny_newObj_type (wpAny_bind (wpAny_pure (wpAny_pure ⟨_, rfl, wpAny_pure h⟩))) htake)
    | exact wpAny_bind (wpAny_bind (m := Builtin.Tuple.tupleExact _) (wpAny_newObj_type (wpAny_pure (wpAny_pure ⟨_, rfl, wpAny_pure h⟩)) htake))
    | exact wpAny_bind (wpAny_bind (m := Builtin.Tuple.tupleExact _) (wpAny_newObj_type (wpAny_pure ⟨_, rfl, wpAny_pure h⟩) htake))
def tRevS (K : PySem.W.Frag) (te : TE) : TE := fun σ H Q => te σ H fun x H1 => ∃ a xs, x = .ref a ∧ ((SqL K H1 a xs ∧ ∀ p, H1 p = none → Q (.ref p) (upd H1 p (.lst xs.reverse))) ∨ (SqT K H1 a xs ∧ ∀ p, H1 p = none → Q (.ref p) (upd H1 p (.tup xs.reverse))))
section
variable {X : Cx} {Z : Dx} {e : Expr} {te : TE} {td : TD} {k : Nat} {p1 p2 p3 pos : Pos}
theorem pe_revS (he : PE X e te) : PE X (.Subscript e (.Slice none none (some (.UnaryOp .USub (.Constant (.int 1) k p1) p2)) p3) pos) (tRevS X.K te) := by
  refine ⟨fun pins s σ H Q I h => ?_⟩
  refine Subscript_ (thn (he.run pins s σ H _ I h) fun v s1 ⟨x, H1, I1, r1, q1⟩ => ?_)
  obtain ⟨a, xs, ex, hx⟩ := q1
  subst ex
  cases r1
  have hst : PO X (some (.UnaryOp .USub (.Constant (.int 1) k p1) p2)) (tPart (tUn (rU fun i => .int (-i)) (tC (.int 1)))) := po_some (pe_un un_neg pe_int)
  have hnone : ∀ {v : Value}, IsPart v none → v = .none := fun h => by cases h; rfl
  refine wpAny_Slice (thn (po_none.run pins s1 σ H1 (fun o H2 => o = none ∧ H2 = H1) I1 ⟨rfl, rfl⟩) fun vl s2 ⟨l, H2, I2, pl, el, e2⟩ => ?_)
  subst el e2
  refine thn (po_none.run pins s2 σ H2 (fun o H3 => o = none ∧ H3 = H2) I2 ⟨rfl, rfl⟩) fun vu s3 ⟨u, H3, I3, pu, eu, e3⟩ => ?_
  subst eu e3
  refine thn (hst.run pins s3 σ H3 (fun o H4 => o = some (-1) ∧ H4 = H3) I3 ⟨1, rfl, -1, rfl, rfl, rfl⟩) fun vs s4 ⟨o, H4, I4, ps, eo, e4⟩ => ?_
  subst eo e4
  obtain rfl := hnone pl
  obtain rfl := hnone pu
  have I5 : Inv X pins σ H4 { s4 with heap := s4.heap.push { cls := .type "slice", data := .fields #[.none, .none, vs] } } := I4.kept (t' := s4.toks) fun b ob q => Heap.get?_push_of_some _ q
  show wpAny (model X.prog X.w) X.A (subscriptTail e (.Slice none none (some (.UnaryOp .USub (.Constant (.int 1) k p1) p2)) p3) (.ref a) (.ref s4.heap.objs.size)) (EP X pins σ Q) X.xe { s4 with heap := s4.heap.push { cls := .type "slice", data := .fields #[.none, .none, vs] } }
  rcases hx with ⟨hx, q⟩ | ⟨hx, q⟩
  · obtain ⟨its, r, ht, hz⟩ := I5.list hx
    have hlen := r.length
    refine tail_any (ops := [.ref a, .ref s4.heap.objs.size]) ht.isList.typeIs (PySem.slot_list_getitem.lookup) ?_ (by with_unfolding_all rfl)
    refine wpAny_getItem_list_slice ht.isList (Heap.IsSliceOf.new _ _ _ vs) pl pu ps (by decide) ?_ (by rw [List.size_toArray]; omega)
    rw [PySem.W.krv_pick]
    refine ⟨.ref _, _, I5.laid (t' := s4.toks) (o := .lst xs.reverse) (fun b ob q => Heap.get?_push_of_some _ q) (Nat.le_refl _) ?_, rfl, q _ (I5.hok.fresh (Nat.le_refl _))⟩
    exact ⟨by rw [List.length_reverse]; exact hz, _, 0, r.reverse, Heap.get?_push_size _ rfl⟩
  · obtain ⟨its, r, ht, hz⟩ := I5.tuple hx
    have hlen := r.length
    refine tail_any (ops := [.ref a, .ref s4.heap.objs.size]) ht.typeIs (PyProof.Rows.slot_tuple_getitem.lookup) ?_ (by with_unfolding_all rfl)
    refine getItem_tuple_rev ht (Heap.IsSliceOf.new _ _ _ vs) ps ?_ (by rw [List.size_toArray]; omega)
    refine ⟨.ref _, _, I5.laid (t' := s4.toks) (o := .tup xs.reverse) (fun b ob q => Heap.get?_push_of_some _ q) (Nat.le_refl _) ?_, rfl, q _ (I5.hok.fresh (Nat.le_refl _))⟩
    exact ⟨by rw [List.length_reverse]; exact hz, _, r.reverse, IsTup.new _ _⟩
@[simp] def dRev (t : TD) : TD := fun Γ P E => t Γ (fun d Γ1 => match d with
  | .tuple xs => P (.tuple xs.reverse) Γ1
  | .list xs => P (.list xs.reverse) Γ1
  | _ => False) E
theorem de_rev (he : DE X Z e td) : DE X Z (.Subscript e (.Slice none none (some (.UnaryOp .USub (.Constant (.int 1) k p1) p2)) p3) pos) (dRev td) := by
  refine ⟨PE.imp (pe_revS he.pe) fun σ H Q hh => ?_⟩
  obtain ⟨Γ, G, P, E, r, t, k, x⟩ := hh
  refine ⟨Γ, G, _, E, r, t, fun d Γ1 G1 v1 H1 q1 r1 s1 p1 => ?_, x⟩
  cases p1 with
  | @tup a vs ds h t hz =>
    refine ⟨a, vs, rfl, .inr ⟨sqT_mono r1.sub h, fun p hp => ?_⟩⟩
    obtain ⟨st, rp⟩ := tup_new r1.sub hp t.reverse (by rw [List.length_reverse]; exact hz)
    exact k _ Γ1 _ _ _ q1 (r1.stp st) (s1.trans (.step r1 st)) rp
  | @lst a vs ds h t hz =>
    refine ⟨a, vs, rfl, .inl ⟨sqL_of h r1.sub, fun p hp => ?_⟩⟩
    obtain ⟨st, rp⟩ := lst_new r1.sub hp t.reverse (by rw [List.length_reverse]; exact hz)
    exact k _ Γ1 _ _ _ q1 (r1.stp st) (s1.trans (.step r1 st)) rp
  | _ => exact q1.elim
end

/-! ### built-in names by values -/
@[simp] def pyLen : PD → Option Nat
  | .str x => some x.length
  | .list xs => some xs.length
  | .tuple xs => some xs.length
  | _ => none
@[simp] def fLen : FL := fun ds k => match ds with
  | [d] => (match pyLen d with
    | some n => k (.int n)
    | none => False)
  | _ => False
@[simp] def fInt : FL := fun ds k => match ds with
  | [.int i] => k (.int i)
  | [.bool b] => k (.int (if b then 1 else 0))
  | _ => False
@[simp] def fMax : FL := fun ds k => match ds with
  | [.int i, .int j] => k (.int (if j > i then j else i))
  | _ => False
@[simp] def fMin : FL := fun ds k => match ds with
  | [.int i, .int j] => k (.int (if j < i then j else i))
  | _ => False
def fAbs : FL := fun ds k => match ds with
  | [.int i] => k (.int (if i < 0 then -i else i))
  | _ => False
@[simp] def fTup : FL := fun ds k => match ds with
  | [.list xs] => k (.tuple xs)
  | [.tuple xs] => k (.tuple xs)
  | _ => False
@[simp] def fLst : FL := fun ds k => match ds with
  | [.list xs] => k (.list xs)
  | [.tuple xs] => k (.list xs)
  | _ => False
def intsD : List PD → Option (List Int)
  | [] => some []
  | .int i :: r => (intsD r).map (i :: ·)
  | _ :: _ => none
def blsD : List PD → Option (List Bool)
  | [] => some []
  | .bool i :: r => (blsD r).map (i :: ·)
  | _ :: _ => none
def strsD : List PD → Option (List Str)
  | [] => some []
  | .str i :: r => (strsD r).map (i :: ·)
  | _ :: _ => none
theorem intsD_of : ∀ {ds : List PD} {ns : List Int}, intsD ds = some ns → ds = ns.map PyData.int
  | [], ns, h => by cases h; rfl
  | .int i :: r, ns, h => by
    unfold intsD at h
    cases e : intsD r with
    | none => rw [e] at h; cases h
    | some ms => rw [e] at h; cases h; rw [intsD_of e]; rfl
  | .none :: r, ns, h => by cases h
  | .bool _ :: r, ns, h => by cases h
  | .str _ :: r, ns, h => by cases h
  | .list _ :: r, ns, h => by cases h
  | .tuple _ :: r, ns, h => by cases h
  | .dict _ :: r, ns, h => by cases h
theorem blsD_of : ∀ {ds : List PD} {ns : List Bool}, blsD ds = some ns → ds = ns.map PyData.bool
  | [], ns, h => by cases h; rfl
  | .bool i :: r, ns, h => by
    unfold blsD at h
    cases e : blsD r with
    | none => rw [e] at h; cases h
    | some ms => rw [e] at h; cases h; rw [blsD_of e]; rfl
  | .none :: r, ns, h => by cases h
  | .int _ :: r, ns, h => by cases h
  | .str _ :: r, ns, h => by cases h
  | .list _ :: r, ns, h => by cases h
  | .tuple _ :: r, ns, h => by cases h
  | .dict _ :: r, ns, h => by cases h
theorem strsD_of : ∀ {ds : List PD} {ns : List Str}, strsD ds = some ns → ds = ns.map PyData.str
  | [], ns, h => by cases h; rfl
  | .str i :: r, ns, h => by
    unfold strsD at h
    cases e : strsD r with
    | none => rw [e] at h; cases h
    | some ms => rw [e] at h; cases h; rw [strsD_of e]; rfl
  | .none :: r, ns, h => by cases h
  | .int _ :: r, ns, h => by cases h
  | .bool _ :: r, ns, h => by cases h
  | .list _ :: r, ns, h => by cases h
  | .tuple _ :: r, ns, h => by cases h
  | .dict _ :: r, ns, h => by cases h
theorem intsD_ints : ∀ ns : List Int, intsD (ns.map PyData.int) = some ns
  | [] => rfl
  | n :: r => by rw [List.map_cons, intsD, intsD_ints r]; rfl
theorem blsD_bls : ∀ ns : List Bool, blsD (ns.map PyData.bool) = some ns
  | [] => rfl
  | n :: r => by rw [List.map_cons, blsD, blsD_bls r]; rfl
theorem strsD_strs : ∀ ns : List Str, strsD (ns.map PyData.str) = some ns
  | [] => rfl
  | n :: r => by rw [List.map_cons, strsD, strsD_strs r]; rfl
/-- sum, any, all of a list -/
@[simp] def fSum : FL := fun ds k => match ds with
  | [.list xs] => (match intsD xs with
    | some ns => k (.int ns.sum)
    | none => False)
  | _ => False
@[simp] def fAny : FL := fun ds k => match ds with
  | [.list xs] => (match blsD xs with
    | some ns => k (.bool (ns.any id))
    | none => False)
  | _ => False
@[simp] def fAll : FL := fun ds k => match ds with
  | [.list xs] => (match blsD xs with
    | some ns => k (.bool (ns.all id))
    | none => False)
  | _ => False
def fMaxL : FL := fun ds k => match ds with
  | [.list xs] => (match intsD xs with
    | some ns => 0 < ns.length ∧ ∀ m, m ∈ ns → (∀ y, y ∈ ns → y ≤ m) → k (.int m)
    | none => False)
  | _ => False
def fMinL : FL := fun ds k => match ds with
  | [.list xs] => (match intsD xs with
    | some ns => 0 < ns.length ∧ ∀ m, m ∈ ns → (∀ y, y ∈ ns → m ≤ y) → k (.int m)
    | none => False)
  | _ => False
section
variable {K : PySem.W.Frag}
abbrev rLen (K : PySem.W.Frag) : List V → Hp → VK → Prop := fun xs H Q => (∃ p ys, xs = [.ref p] ∧ (SqL K H p ys ∨ SqT K H p ys) ∧ Q (.int ys.length) H) ∨ ∃ z, xs = [.str z] ∧ z.length ≤ sizeLine ∧ Q (.int z.length) H
theorem cr_len {X : Cx} : CallR X (.builtin "len") (rLen X.K) := call_len_seq.or call_len_str
theorem rps1 {G : Hp} {vs : List V} {d : PD} (h : Rps K G vs [d]) : ∃ v, vs = [v] ∧ Rp K G v d := by
  cases h with
  | cons h t => cases t; exact ⟨_, rfl, h⟩
theorem rps2 {G : Hp} {vs : List V} {d e : PD} (h : Rps K G vs [d, e]) : ∃ v w, vs = [v, w] ∧ Rp K G v d ∧ Rp K G w e := by
  cases h with
  | cons h t => cases t with
    | cons h2 t => cases t; exact ⟨_, _, rfl, h, h2⟩
theorem vl_len : VL K (rLen K) fLen := by
  intro G H vs ds k Q s hr hf hk
  unfold fLen at hf
  split at hf
  · rename_i d
    obtain ⟨v, rfl, h⟩ := rps1 hr
    cases h with
    | str x a b => exact .inr ⟨x, rfl, b, hk _ G H _ hf .rfl' (.int _)⟩
    | lst h t hz => exact .inl ⟨_, _, rfl, .inl (sqL_of h s), by rw [t.length]; exact hk _ G H _ hf .rfl' (.int _)⟩
    | tup h t hz => exact .inl ⟨_, _, rfl, .inr (sqT_mono s h), by rw [t.length]; exact hk _ G H _ hf .rfl' (.int _)⟩
    | _ => exact hf.elim
  · exact hf.elim
theorem vl_int : VL K (fun xs H Q => (∃ i, xs = [.int i] ∧ Q (.int i) H) ∨ ∃ k, xs = [.bl k] ∧ Q (.int (if k then 1 else 0)) H) fInt := by
  intro G H vs ds k Q s hr hf hk
  unfold fInt at hf
  split at hf
  · obtain ⟨v, rfl, h⟩ := rps1 hr
    rw [h.int_inv]
    exact .inl ⟨_, rfl, hk _ G H _ hf .rfl' (.int _)⟩
  · obtain ⟨v, rfl, h⟩ := rps1 hr
    rw [h.bl_inv]
    exact .inr ⟨_, rfl, hk _ G H _ hf .rfl' (.int _)⟩
  · exact hf.elim
theorem vl_max : VL K (fun xs H Q => ∃ i j, xs = [.int i, .int j] ∧ Q (.int (if j > i then j else i)) H) fMax := by
  intro G H vs ds k Q s hr hf hk
  unfold fMax at hf
  split at hf
  · obtain ⟨v, w, rfl, h, h2⟩ := rps2 hr
    rw [h.int_inv, h2.int_inv]
    exact ⟨_, _, rfl, hk _ G H _ hf .rfl' (.int _)⟩
  · exact hf.elim
theorem vl_min : VL K (fun xs H Q => ∃ i j, xs = [.int i, .int j] ∧ Q (.int (if j < i then j else i)) H) fMin := by
  intro G H vs ds k Q s hr hf hk
  unfold fMin at hf
  split at hf
  · obtain ⟨v, w, rfl, h, h2⟩ := rps2 hr
    rw [h.int_inv, h2.int_inv]
    exact ⟨_, _, rfl, hk _ G H _ hf .rfl' (.int _)⟩
  · exact hf.elim
theorem vl_abs : VL K (fun xs H Q => ∃ i, xs = [.int i] ∧ Q (.int (if i < 0 then -i else i)) H) fAbs := by
  intro G H vs ds k Q s hr hf hk
  unfold fAbs at hf
  split at hf
  · obtain ⟨v, rfl, h⟩ := rps1 hr
    rw [h.int_inv]
    exact ⟨_, rfl, hk _ G H _ hf .rfl' (.int _)⟩
  · exact hf.elim
theorem vl_tup : VL K (fun xs H Q => ∃ p ys, xs = [.ref p] ∧ ((SqL K H p ys ∧ ∀ l, H l = none → Q (.ref l) (upd H l (.tup ys))) ∨ (SqT K H p ys ∧ Q (.ref p) H))) fTup := by
  intro G H vs ds k Q s hr hf hk
  unfold fTup at hf
  split at hf
  · obtain ⟨v, rfl, h⟩ := rps1 hr
    cases h with
    | lst h t hz =>
      refine ⟨_, _, rfl, .inl ⟨sqL_of h s, fun l hl => ?_⟩⟩
      obtain ⟨st, rp⟩ := tup_new s hl t hz
      exact hk _ _ _ _ hf st rp
  · obtain ⟨v, rfl, h⟩ := rps1 hr
    cases h with
    | tup h t hz => exact ⟨_, _, rfl, .inr ⟨sqT_mono s h, hk _ G H _ hf .rfl' (.tup h t hz)⟩⟩
  · exact hf.elim
theorem vl_lst : VL K (fun xs H Q => ∃ p ys, xs = [.ref p] ∧ (SqL K H p ys ∨ SqT K H p ys) ∧ ∀ l, H l = none → Q (.ref l) (upd H l (.lst ys))) fLst := by
  intro G H vs ds k Q s hr hf hk
  unfold fLst at hf
  split at hf
  · obtain ⟨v, rfl, h⟩ := rps1 hr
    cases h with
    | lst h t hz =>
      refine ⟨_, _, rfl, .inl (sqL_of h s), fun l hl => ?_⟩
      obtain ⟨st, rp⟩ := lst_new s hl t hz
      exact hk _ _ _ _ hf st rp
  · obtain ⟨v, rfl, h⟩ := rps1 hr
    cases h with
    | tup h t hz =>
      refine ⟨_, _, rfl, .inr (sqT_mono s h), fun l hl => ?_⟩
      obtain ⟨st, rp⟩ := lst_new s hl t hz
      exact hk _ _ _ _ hf st rp
  · exact hf.elim
theorem vl_sum : VL K (rSum K) fSum := by
  intro G H vs ds k Q s hr hf hk
  unfold fSum at hf
  split at hf
  · obtain ⟨v, rfl, h⟩ := rps1 hr
    split at hf
    · rename_i ns e
      cases h with
      | lst h t hz =>
        rw [intsD_of e] at t
        rw [rps_ints_inv t] at h
        exact ⟨_, _, rfl, sqL_of h s, hk _ G H _ hf .rfl' (.int _)⟩
    · exact hf.elim
  · exact hf.elim
theorem vl_any : VL K (rAny K) fAny := by
  intro G H vs ds k Q s hr hf hk
  unfold fAny at hf
  split at hf
  · obtain ⟨v, rfl, h⟩ := rps1 hr
    split at hf
    · rename_i ns e
      cases h with
      | lst h t hz =>
        rw [blsD_of e] at t
        rw [rps_bls_inv t] at h
        exact ⟨_, _, rfl, sqL_of h s, hk _ G H _ hf .rfl' (.bl _)⟩
    · exact hf.elim
  · exact hf.elim
theorem vl_all : VL K (rAll K) fAll := by
  intro G H vs ds k Q s hr hf hk
  unfold fAll at hf
  split at hf
  · obtain ⟨v, rfl, h⟩ := rps1 hr
    split at hf
    · rename_i ns e
      cases h with
      | lst h t hz =>
        rw [blsD_of e] at t
        rw [rps_bls_inv t] at h
        exact ⟨_, _, rfl, sqL_of h s, hk _ G H _ hf .rfl' (.bl _)⟩
    · exact hf.elim
  · exact hf.elim
theorem vl_maxL : VL K (rMax K) fMaxL := by
  intro G H vs ds k Q s hr hf hk
  unfold fMaxL at hf
  split at hf
  · obtain ⟨v, rfl, h⟩ := rps1 hr
    split at hf
    · rename_i ns e
      cases h with
      | lst h t hz =>
        rw [intsD_of e] at t
        rw [rps_ints_inv t] at h
        exact ⟨_, _, rfl, sqL_of h s, hf.1, fun m h1 h2 => hk _ G H _ (hf.2 m h1 h2) .rfl' (.int _)⟩
    · exact hf.elim
  · exact hf.elim
theorem vl_minL : VL K (rMin K) fMinL := by
  intro G H vs ds k Q s hr hf hk
  unfold fMinL at hf
  split at hf
  · obtain ⟨v, rfl, h⟩ := rps1 hr
    split at hf
    · rename_i ns e
      cases h with
      | lst h t hz =>
        rw [intsD_of e] at t
        rw [rps_ints_inv t] at h
        exact ⟨_, _, rfl, sqL_of h s, hf.1, fun m h1 h2 => hk _ G H _ (hf.2 m h1 h2) .rfl' (.int _)⟩
    · exact hf.elim
  · exact hf.elim
end

/-! ### isinstance(x, T), T a built-in type -/
def tyN : PD → String
  | .none => "NoneType"
  | .bool _ => "bool"
  | .int _ => "int"
  | .str _ => "str"
  | .list _ => "list"
  | .tuple _ => "tuple"
  | .dict _ => "dict"
/-- for each kind of data whether it is a T -/
structure IsiT (T : String) (f : PD → Bool) : Prop where
  ans : ∀ d, kitB (tyN d) T = some (f d)
@[simp] def dIsi (f : PD → Bool) (t : TD) : TD := fun Γ P E => t Γ (fun d Γ1 => P (.bool (f d)) Γ1) E
theorem tyX_of {K : PySem.W.Frag} {G H : Hp} {v : V} {d : PD} (s : Same G H) (h : Rp K G v d) : TyX K H v (.type (tyN d)) := by
  cases h with
  | non => exact .base .non
  | bl b => exact .base (.bl b)
  | int i => exact .base (.int i)
  | str x a b => exact .base (.str x)
  | lst h t hz => exact .base (.lst (s _ _ h))
  | tup h t hz =>
    rcases sqT_mono s h with (h | ⟨o, h⟩) | ⟨o, its, n, h1, h2, _⟩
    · exact .base (.tup h)
    · exact .fTuple h
    · exact .kTuple h1 h2
section
variable {X : Cx} {Z : Dx} {e : Expr} {te : TD} {p p2 pos : Pos} {T : String} {y : Str} {f : PD → Bool}
theorem de_isi (hf : IsiT T f) (hg : Gl X "isinstance") (hm : X.mg "isinstance" = none) (hgT : Gl X y) (hmT : X.mg y = none) (hb : bootBuiltins y = some (.type T)) (he : DE X Z e te) (hn : y ≠ "__name__" := by decide) (hd : (y == ("__debug__" : Str)) = false := by decide)
    (hs1 : starEach [e, .Name y p2] X.env = (false, eval e X.env) :: starEach [.Name y p2] X.env := by rfl) (hs2 : starEach [.Name y p2] X.env = (false, eval (.Name y p2) X.env) :: starEach [] X.env := by rfl)
    (hpl : (backTo pos (starEach [.Name y p2] X.env)).any (·.1) = false := by rfl) : DE X Z (.Call (.Name "isinstance" p) [e, .Name y p2] [] pos) (dIsi f te) := by
  refine ⟨PE.imp (pe_callB call_isi hg hm PyProof.Rows.boot_isinstance (pa_cons he.pe (pa_cons (pe_bltn hgT hmT hb (v := .ty T) rfl hn hd) pa_nil hs2) hs1) (by decide) (by decide) hs1 hpl) fun σ H Q hh => ?_⟩
  obtain ⟨Γ, G, P, E, r, t, k, x⟩ := hh
  refine ⟨Γ, G, _, E, r, t, fun d Γ1 G1 v1 H1 q1 r1 s1 p1 => ?_, x⟩
  exact ⟨_, _, _, _, f d, rfl, .ty T, tyX_of r1.sub p1, kit_ty (hf.ans d), k _ Γ1 G1 _ H1 q1 r1 s1 (.bl _)⟩
end
@[simp] def isInt : PD → Bool
  | .bool _ => true
  | .int _ => true
  | _ => false
@[simp] def isBool : PD → Bool
  | .bool _ => true
  | _ => false
@[simp] def isStr : PD → Bool
  | .str _ => true
  | _ => false
@[simp] def isTup : PD → Bool
  | .tuple _ => true
  | _ => false
@[simp] def isLst : PD → Bool
  | .list _ => true
  | _ => false
theorem isi_int : IsiT "int" isInt := ⟨fun d => match d with
  | .none => (by decide +kernel : kitB "NoneType" "int" = some false)
  | .bool _ => (by decide +kernel : kitB "bool" "int" = some true)
  | .int _ => (by decide +kernel : kitB "int" "int" = some true)
  | .str _ => (by decide +kernel : kitB "str" "int" = some false)
  | .list _ => (by decide +kernel : kitB "list" "int" = some false)
  | .tuple _ => (by decide +kernel : kitB "tuple" "int" = some false)
  | .dict _ => (by decide +kernel : kitB "dict" "int" = some false)⟩
theorem isi_bool : IsiT "bool" isBool := ⟨fun d => match d with
  | .none => (by decide +kernel : kitB "NoneType" "bool" = some false)
  | .bool _ => (by decide +kernel : kitB "bool" "bool" = some true)
  | .int _ => (by decide +kernel : kitB "int" "bool" = some false)
  | .str _ => (by decide +kernel : kitB "str" "bool" = some false)
  | .list _ => (by decide +kernel : kitB "list" "bool" = some false)
  | .tuple _ => (by decide +kernel : kitB "tuple" "bool" = some false)
  | .dict _ => (by decide +kernel : kitB "dict" "bool" = some false)⟩
theorem isi_str : IsiT "str" isStr := ⟨fun d => match d with
  | .none => (by decide +kernel : kitB "NoneType" "str" = some false)
  | .bool _ => (by decide +kernel : kitB "bool" "str" = some false)
  | .int _ => (by decide +kernel : kitB "int" "str" = some false)
  | .str _ => (by decide +kernel : kitB "str" "str" = some true)
  | .list _ => (by decide +kernel : kitB "list" "str" = some false)
  | .tuple _ => (by decide +kernel : kitB "tuple" "str" = some false)
  | .dict _ => (by decide +kernel : kitB "dict" "str" = some false)⟩
theorem isi_tup : IsiT "tuple" isTup := ⟨fun d => match d with
  | .none => (by decide +kernel : kitB "NoneType" "tuple" = some false)
  | .bool _ => (by decide +kernel : kitB "bool" "tuple" = some false)
  | .int _ => (by decide +kernel : kitB "int" "tuple" = some false)
  | .str _ => (by decide +kernel : kitB "str" "tuple" = some false)
  | .list _ => (by decide +kernel : kitB "list" "tuple" = some false)
  | .tuple _ => (by decide +kernel : kitB "tuple" "tuple" = some true)
  | .dict _ => (by decide +kernel : kitB "dict" "tuple" = some false)⟩
theorem isi_lst : IsiT "list" isLst := ⟨fun d => match d with
  | .none => (by decide +kernel : kitB "NoneType" "list" = some false)
  | .bool _ => (by decide +kernel : kitB "bool" "list" = some false)
  | .int _ => (by decide +kernel : kitB "int" "list" = some false)
  | .str _ => (by decide +kernel : kitB "str" "list" = some false)
  | .list _ => (by decide +kernel : kitB "list" "list" = some true)
  | .tuple _ => (by decide +kernel : kitB "tuple" "list" = some false)
  | .dict _ => (by decide +kernel : kitB "dict" "list" = some false)⟩
end DL

set_option Elab.async false
set_option linter.all false
set_option maxRecDepth 100000
set_option maxHeartbeats 4000000
/-! The data layer, part 9: what is done to a list that a slot owns. -/
namespace DL
open PySem PySem.Spec PyProof.Rows L2

@[simp] def getL (Γ : SS) (i : Nat) : Option (List PD) := match Γ[i]? with
  | some (.own (.lst xs)) => some xs
  | some (.io (.lst xs)) => some xs
  | _ => none
@[simp] def putL (Γ : SS) (i : Nat) (xs : List PD) : SS := match Γ[i]? with
  | some (.own _) => Γ.set i (.own (.lst xs))
  | some (.io _) => Γ.set i (.io (.lst xs))
  | _ => Γ
theorem getL_cases {Γ : SS} {i : Nat} {xs : List PD} (h : getL Γ i = some xs) : Γ[i]? = some (.own (.lst xs)) ∨ Γ[i]? = some (.io (.lst xs)) := by
  unfold getL at h
  split at h
  · rename_i e; cases h; exact .inl e
  · rename_i e; cases h; exact .inr e
  · cases h
section
variable {K : PySem.W.Frag} {En : Ent} {Γ : SS} {G : Hp} {σ : St} {H : Hp} {i : Nat} {xs : List PD}
theorem Rl.objL (r : Rl K En Γ G σ H) (h : getL Γ i = some xs) : ∃ (a : Addr) (vs : List V), σ[i]? = some (some (V.ref a)) ∧ H a = some (.lst vs) ∧ Rps K G vs xs ∧ xs.length ≤ sizeLine ∧ G a = none := by
  rcases getL_cases h with e | e
  · obtain ⟨v, e1, a, o, e2, h1, h2, h3, h4⟩ := r.slot i _ e
    subst e2
    obtain ⟨vs, rfl, h7, hz⟩ := h2.lst_inv
    exact ⟨a, vs, e1, h1, h7, hz, h3⟩
  · obtain ⟨v, e1, a, o, e2, h1, h2, h3, h4⟩ := r.slot i _ e
    subst e2
    obtain ⟨vs, rfl, h7, hz⟩ := h2.lst_inv
    exact ⟨a, vs, e1, h1, h7, hz, h3⟩
theorem Rl.putL {a : Addr} {ws : List V} {ys : List PD} (r : Rl K En Γ G σ H) (h : getL Γ i = some xs) (ha : σ[i]? = some (some (V.ref a))) (hv : Rps K G ws ys) (hz : ys.length ≤ sizeLine) :
    Rl K En (putL Γ i ys) G σ (upd H a (.lst ws)) ∧ Adv Γ σ G H (putL Γ i ys) σ G (upd H a (.lst ws)) := by
  obtain ⟨a', vs, e1, h1, h2, h3, h4⟩ := r.objL h
  rw [ha] at e1
  cases e1
  have hio : ∀ p, p = a → En.H p = none ∨ En.ioA p := fun p e => by
    subst e
    rcases getL_cases h with e | e
    · obtain ⟨v, e1, b, o, e2, _, _, _, g⟩ := r.slot i _ e
      rw [ha] at e1; cases e1; cases e2
      exact .inl g
    · obtain ⟨v, e1, b, o, e2, _, _, _, g⟩ := r.slot i _ e
      rw [ha] at e1; cases e1; cases e2
      exact .inr ⟨i, g⟩
  have g := Grow.write (o := HO.lst ws) r.sub r.ntb h4
  have lt : i < Γ.length := by
    rcases getL_cases h with e | e <;> exact (List.getElem?_eq_some_iff.mp e).1
  have own : ∀ {j : Nat} {c : SC}, (DL.putL Γ i ys)[j]? = some c → isOwn c = true → ∃ c', Γ[j]? = some c' ∧ isOwn c' = true := fun {j c} e o => by
    by_cases hj : i = j
    · subst hj
      rcases getL_cases h with e' | e' <;> exact ⟨_, e', rfl⟩
    · unfold DL.putL at e
      rcases getL_cases h with e' | e'
      · rw [e'] at e
        dsimp only at e
        rw [List.getElem?_set_ne hj] at e
        exact ⟨c, e, o⟩
      · rw [e'] at e
        dsimp only at e
        rw [List.getElem?_set_ne hj] at e
        exact ⟨c, e, o⟩
  have slot : ∀ (j : Nat) (c : SC), (DL.putL Γ i ys)[j]? = some c → ∃ v, σ[j]? = some v ∧ SRel En K G (upd H a (.lst ws)) j v c := fun j c e => by
    by_cases hj : i = j
    · subst hj
      unfold DL.putL at e
      rcases getL_cases h with e' | e'
      · rw [e'] at e
        dsimp only at e
        rw [List.getElem?_set_self lt] at e
        cases e
        obtain ⟨v, e1, b, o, e2, _, _, _, g5⟩ := r.slot i _ e'
        rw [ha] at e1; cases e1; cases e2
        exact ⟨_, ha, a, _, rfl, upd_same, .lst hv hz, h4, g5⟩
      · rw [e'] at e
        dsimp only at e
        rw [List.getElem?_set_self lt] at e
        cases e
        obtain ⟨v, e1, b, o, e2, _, _, _, g5⟩ := r.slot i _ e'
        rw [ha] at e1; cases e1; cases e2
        exact ⟨_, ha, a, _, rfl, upd_same, .lst hv hz, h4, g5⟩
    · have e0 : Γ[j]? = some c := by
        unfold DL.putL at e
        rcases getL_cases h with e' | e'
        · rw [e'] at e
          dsimp only at e
          rw [List.getElem?_set_ne hj] at e
          exact e
        · rw [e'] at e
          dsimp only at e
          rw [List.getElem?_set_ne hj] at e
          exact e
      obtain ⟨v, f1, f2⟩ := r.slot j c e0
      refine ⟨v, f1, f2.keep g fun b eb oc z => ?_⟩
      have z' : b = a := z
      rcases getL_cases h with e' | e'
      · exact r.dis i j _ c a hj e' e0 rfl oc ha (by rw [f1, eb, z'])
      · exact r.dis i j _ c a hj e' e0 rfl oc ha (by rw [f1, eb, z'])
  have len : (DL.putL Γ i ys).length = Γ.length := by
    unfold DL.putL
    split
    · exact List.length_set ..
    · exact List.length_set ..
    · rfl
  refine ⟨r.next g hio (tabs_write r.tab h1 nlst next_lst) len slot fun j c e o => own e o, ⟨Same.refl G, fun p o e ap n => ?_, fun p n e _ => e, fun p n => upd_pers p n, fun j c e o => ⟨own e o, rfl⟩⟩⟩
  rw [upd_ne fun z => ?_]
  · exact e
  · subst z
    rcases getL_cases h with e' | e'
    · exact ap i _ e' rfl ha
    · exact ap i _ e' rfl ha
end
section
variable {X : Cx} {Z : Dx} {e o : Expr} {te ti : TD} {i : Nat} {apos pos cpos : Pos}
/-- xs.append(e) -/
@[simp] def dApp (i : Nat) (t : TD) : TD := fun Γ P E => (getL Γ i).isSome = true ∧ t Γ (fun d Γ1 => match getL Γ1 i with
  | some xs => xs.length < sizeLine ∧ P .none (putL Γ1 i (xs ++ [d]))
  | none => False) E
@[simp] def dExt (i : Nat) (t : TD) : TD := fun Γ P E => (getL Γ i).isSome = true ∧ t Γ (fun d Γ1 => match getL Γ1 i, d with
  | some xs, .list ys => xs.length + ys.length ≤ sizeLine ∧ P .none (putL Γ1 i (xs ++ ys))
  | _, _ => False) E
@[simp] def dPop (i : Nat) : TD := fun Γ P _ => match getL Γ i with
  | some xs => (match xs[xs.length - 1]? with
    | some d => P d (putL Γ i xs.dropLast)
    | none => False)
  | none => False
@[simp] def dIxL (i : Nat) (t : TD) : TD := fun Γ P E => (getL Γ i).isSome = true ∧ t Γ (fun d Γ1 => match getL Γ1 i, d with
  | some xs, .int j => (match atI xs j with
    | some v => P v Γ1
    | none => False)
  | _, _ => False) E
theorem someL {Γ : SS} {i : Nat} (h : (getL Γ i).isSome = true) : ∃ xs, getL Γ i = some xs := Option.isSome_iff_exists.mp h
theorem de_app (ho : PE X o (tVar i)) (he : DE X Z e te) (hbase : attributeBase o "append" X.env (eval o X.env) = eval o X.env := by rfl)
    (hfew : ((backTo cpos (starEach [e] X.env)).all (fun x => !x.1) && (backToKw cpos (keywordEach [] X.env)).all (fun x => x.1.isSome)
      && decide ([e].length + ([] : List Keyword).length + (if ([] : List Keyword).isEmpty then 0 else 1) < 30)) = true := by rfl)
    (hline : (apos.endLine == cpos.line) = true := by rfl) (hs : starEach [e] X.env = (false, eval e X.env) :: starEach [] X.env := by rfl) (hplain : (backTo cpos (starEach [] X.env)).any (·.1) = false := by rfl) :
    DE X Z (.Call (.Attribute o "append" apos) [e] [] cpos) (dApp i te) := by
  refine ⟨PE.imp (pe_bm PySem.F.plainAttrs_list PySem.F.slot_list_append PySem.F.type_list_append mt_append ho (pa_cons he.pe pa_nil hs) hbase hfew hline hs hplain) fun σ H Q hh => ?_⟩
  obtain ⟨Γ, G, P, E, r, ⟨h0, t⟩, k, x⟩ := hh
  obtain ⟨xs0, e0⟩ := someL h0
  obtain ⟨a, vs0, ea, h1, _, _, _⟩ := r.objL e0
  refine ⟨.ref a, ea, .inl ⟨rfl, vs0, .inl (.inl h1)⟩, Γ, G, _, E, r, t, fun d Γ1 G1 v1 H1 q1 r1 s1 p1 => ?_, x⟩
  cases e1 : getL Γ1 i with
  | none => rw [e1] at q1; exact q1.elim
  | some xs =>
    rw [e1] at q1
    obtain ⟨hz, q1⟩ := q1
    obtain ⟨a', vs, ea', g1, g2, g3, g4⟩ := r1.objL e1
    rw [ea] at ea'
    cases ea'
    obtain ⟨r2, s2⟩ := r1.putL e1 ea (g2.append (.one p1)) (by rw [List.length_append]; show xs.length + 1 ≤ sizeLine; omega)
    exact ⟨a, vs, v1, rfl, rfl, g1, by rw [g2.length]; exact hz, k _ _ _ _ _ q1 r2 (s1.trans s2) .non⟩
theorem de_ext (ho : PE X o (tVar i)) (he : DE X Z e te) (hbase : attributeBase o "extend" X.env (eval o X.env) = eval o X.env := by rfl)
    (hfew : ((backTo cpos (starEach [e] X.env)).all (fun x => !x.1) && (backToKw cpos (keywordEach [] X.env)).all (fun x => x.1.isSome)
      && decide ([e].length + ([] : List Keyword).length + (if ([] : List Keyword).isEmpty then 0 else 1) < 30)) = true := by rfl)
    (hline : (apos.endLine == cpos.line) = true := by rfl) (hs : starEach [e] X.env = (false, eval e X.env) :: starEach [] X.env := by rfl) (hplain : (backTo cpos (starEach [] X.env)).any (·.1) = false := by rfl) :
    DE X Z (.Call (.Attribute o "extend" apos) [e] [] cpos) (dExt i te) := by
  refine ⟨PE.imp (pe_bm PySem.F.plainAttrs_list PySem.F.slot_list_extend PySem.F.type_list_extend mt_extend ho (pa_cons he.pe pa_nil hs) hbase hfew hline hs hplain) fun σ H Q hh => ?_⟩
  obtain ⟨Γ, G, P, E, r, ⟨h0, t⟩, k, x⟩ := hh
  obtain ⟨xs0, e0⟩ := someL h0
  obtain ⟨a, vs0, ea, h1, _, _, _⟩ := r.objL e0
  refine ⟨.ref a, ea, .inl ⟨rfl, vs0, .inl (.inl h1)⟩, Γ, G, _, E, r, t, fun d Γ1 G1 v1 H1 q1 r1 s1 p1 => ?_, x⟩
  cases e1 : getL Γ1 i with
  | none => rw [e1] at q1; exact q1.elim
  | some xs =>
    rw [e1] at q1
    cases d with
    | list ys =>
      obtain ⟨hz, q1⟩ := q1
      obtain ⟨a', vs, ea', g1, g2, g3, g4⟩ := r1.objL e1
      rw [ea] at ea'
      cases ea'
      obtain ⟨b, ws, rfl, hb, hw, _⟩ := p1.lst_inv
      obtain ⟨r2, s2⟩ := r1.putL e1 ea (g2.append hw) (by rw [List.length_append]; exact hz)
      exact ⟨a, b, vs, ws, rfl, rfl, g1, r1.sub _ _ hb, by rw [g2.length, hw.length]; exact hz, k _ _ _ _ _ q1 r2 (s1.trans s2) .non⟩
    | _ => exact q1.elim
theorem de_pop (ho : PE X o (tVar i)) (hbase : attributeBase o "pop" X.env (eval o X.env) = eval o X.env := by rfl) (hline : (apos.endLine == cpos.line) = true := by rfl) : DE X Z (.Call (.Attribute o "pop" apos) [] [] cpos) (dPop i) := by
  refine ⟨PE.imp (pe_bm0 PySem.F.plainAttrs_list PySem.F.slot_list_pop PySem.F.type_list_pop mt_pop ho hbase hline) fun σ H Q hh => ?_⟩
  obtain ⟨Γ, G, P, E, r, t, k, x⟩ := hh
  unfold dPop at t
  cases e1 : getL Γ i with
  | none => rw [e1] at t; exact t.elim
  | some xs =>
    rw [e1] at t
    dsimp only at t
    cases e2 : xs[xs.length - 1]? with
    | none => rw [e2] at t; exact t.elim
    | some d =>
      rw [e2] at t
      obtain ⟨a, vs, ea, g1, g2, g3, g4⟩ := r.objL e1
      obtain ⟨y, f1, f2⟩ := g2.getD e2
      obtain ⟨r2, s2⟩ := r.putL e1 ea g2.dropLast (by rw [List.length_dropLast]; omega)
      exact ⟨.ref a, ea, .inl ⟨rfl, vs, .inl (.inl g1)⟩, a, vs, y, rfl, rfl, g1, by rw [g2.length]; exact f1, k _ _ _ _ _ t r2 s2 f2⟩
theorem de_ixL (ho : PE X o (tVar i)) (he : DE X Z e te) (hs : PlainIx e) : DE X Z (.Subscript o e pos) (dIxL i te) := by
  refine ⟨PE.imp (pe_ix (r := rIx X.K) ix_seq ho he.pe hs) fun σ H Q hh => ?_⟩
  obtain ⟨Γ, G, P, E, r, ⟨h0, t⟩, k, x⟩ := hh
  obtain ⟨xs0, e0⟩ := someL h0
  obtain ⟨a, vs0, ea, h1, _, _, _⟩ := r.objL e0
  refine ⟨.ref a, ea, Γ, G, _, E, r, t, fun d Γ1 G1 v1 H1 q1 r1 s1 p1 => ?_, x⟩
  cases e1 : getL Γ1 i with
  | none => rw [e1] at q1; exact q1.elim
  | some xs =>
    rw [e1] at q1
    cases d with
    | int j =>
      dsimp only at q1
      cases e2 : atI xs j with
      | none => rw [e2] at q1; exact q1.elim
      | some z =>
        rw [e2] at q1
        obtain ⟨a', vs, ea', g1, g2, g3, g4⟩ := r1.objL e1
        rw [ea] at ea'
        cases ea'
        obtain ⟨y, f1, f2⟩ := atI_rps g2 e2
        rw [p1.int_inv]
        exact .inl ⟨a, vs, j, y, rfl, rfl, .inl (.inl g1), f1, k _ _ _ _ _ q1 r1 s1 f2⟩
    | _ => exact q1.elim
/-- xs[n] = e -/
@[simp] def sPut (i : Nat) (ti te : TD) : TSd := fun D Γ => te Γ (fun d Γ1 => (getL Γ1 i).isSome = true ∧ ti Γ1 (fun n Γ2 => match getL Γ2 i, n with
  | some xs, .int k => (match ixN xs.length k with
    | some j => D.nx (putL Γ2 i (xs.set j d))
    | none => False)
  | _, _ => False) D.ex) D.ex
theorem ds_put {n : Expr} (ho : PE X o (tVar i)) (hn : DE X Z n ti) (he : DE X Z e te)
    (ha : ∀ v, assign (.Subscript o n apos) X.env v = (do
      let ov ← holding [v] (eval o X.env)
      let iv ← holding [v, ov] (eval n X.env)
      standAt apos
      holding [v, ov, iv] (setItem ov iv v)
      release [v, ov, iv] []) := by intro _; rfl)
    (hs : swapsWithSole [.Subscript o n apos] e pos.line X.env = pure false := by rfl) (hw : swappedStores [.Subscript o n apos] e X.env = pure none := by rfl)
    (h1 : (assignEach [.Subscript o n apos] X.env).map (·.2) = [assign (.Subscript o n apos) X.env] := by rfl) : DS X Z (.Assign [.Subscript o n apos] e pos) (sPut i ti te) := by
  refine ⟨PS.imp (ps_asg he.pe (pg_sub ho hn.pe set_list ha) hs hw h1) fun D σ H hh => ?_⟩
  obtain ⟨Γ, G, DD, r, t, l⟩ := hh
  refine ⟨Γ, G, _, _, r, t, fun d Γ1 G1 v1 H1 q1 r1 s1 p1 => ?_, (l.ex σ).adv⟩
  obtain ⟨h0, q1⟩ := q1
  obtain ⟨xs0, e0⟩ := someL h0
  obtain ⟨a, vs0, ea, g1, _, _, _⟩ := r1.objL e0
  refine ⟨.ref a, ea, Γ1, G1, _, _, r1, q1, fun n Γ2 G2 v2 H2 q2 r2 s2 p2 => ?_, ((l.ex σ).up s1.same).adv⟩
  cases e1 : getL Γ2 i with
  | none => rw [e1] at q2; exact q2.elim
  | some xs =>
    rw [e1] at q2
    cases n with
    | int k =>
      dsimp only at q2
      cases e2 : ixN xs.length k with
      | none => rw [e2] at q2; exact q2.elim
      | some j =>
        rw [e2] at q2
        obtain ⟨a', vs, ea', g1, g2, g3, g4⟩ := r2.objL e1
        rw [ea] at ea'
        cases ea'
        rw [p2.int_inv]
        obtain ⟨r3, s3⟩ := r2.putL e1 ea (g2.set (p1.up s2.same) j) (by rw [List.length_set]; exact g3)
        exact ⟨a, vs, k, j, rfl, rfl, g1, by rw [g2.length]; exact e2, l.nx _ G2 σ _ q2 r3 (s1.trans s2).same⟩
    | _ => exact q2.elim
/-- len(xs), the truth of xs, xs == e, e in xs: the list stays the slot's own -/
@[simp] def dLenL (i : Nat) : TD := fun Γ P _ => match getL Γ i with
  | some xs => P (.int xs.length) Γ
  | none => False
theorem de_lenL {p : Pos} (hg : Gl X "len") (hm : X.mg "len" = none) (ho : PE X o (tVar i)) (hs : starEach [o] X.env = (false, eval o X.env) :: starEach [] X.env := by rfl) (hpl : (backTo pos (starEach [] X.env)).any (·.1) = false := by rfl) :
    DE X Z (.Call (.Name "len" p) [o] [] pos) (dLenL i) := by
  refine ⟨PE.imp (pe_callB (cr_len (X := X)) hg hm (by decide +kernel) (pa_cons ho pa_nil hs) (by decide) (by decide) hs hpl) fun σ H Q hh => ?_⟩
  obtain ⟨Γ, G, P, E, r, t, k, x⟩ := hh
  unfold dLenL at t
  cases e1 : getL Γ i with
  | none => rw [e1] at t; exact t.elim
  | some xs =>
    rw [e1] at t
    obtain ⟨a, vs, ea, g1, g2, g3, g4⟩ := r.objL e1
    refine ⟨.ref a, ea, .inl ⟨a, vs, rfl, .inl (.inl (.inl g1)), ?_⟩⟩
    rw [g2.length]
    exact k _ _ _ _ _ t r .refl (.int _)
@[simp] def dTruL (i : Nat) : TTd := fun Γ P _ => match getL Γ i with
  | some xs => P (!xs.isEmpty) Γ
  | none => False
theorem dt_truL (ho : PE X o (tVar i)) (he : ∀ whole, isTrue o X.env whole = (do let v ← whole; standAt o.pos; holding [v] (PySem.truthy v)) := by intro _; rfl) : DT X Z o (dTruL i) := by
  refine ⟨PT.imp (pt_truth ho he) fun σ H Q hh => ?_⟩
  obtain ⟨Γ, G, P, E, r, t, k, x⟩ := hh
  unfold dTruL at t
  cases e1 : getL Γ i with
  | none => rw [e1] at t; exact t.elim
  | some xs =>
    rw [e1] at t
    obtain ⟨a, vs, ea, g1, g2, g3, g4⟩ := r.objL e1
    refine ⟨.ref a, ea, _, .inl ⟨vs, .inl (.inl g1), rfl⟩, ?_⟩
    rw [isEmpty_rps g2]
    exact k _ _ _ _ t r .refl
@[simp] def opEqL (neg : Bool) (xs : List PD) (d : PD) (k : PD → Prop) : Prop := min (PyData.list xs).depth d.depth ≤ 64 ∧ k (.bool (if neg then !PyData.eqv (.list xs) d else PyData.eqv (.list xs) d))
@[simp] def dEqL (neg : Bool) (i : Nat) (t : TD) : TD := fun Γ P E => (getL Γ i).isSome = true ∧ t Γ (fun d Γ1 => match getL Γ1 i with
  | some xs => opEqL neg xs d fun z => P z Γ1
  | none => False) E
theorem dp_own {K : PySem.W.Frag} {G H : Hp} {a : Addr} {vs : List V} {xs : List PD} (s : Same G H) (g1 : H a = some (.lst vs)) (g2 : Rps K G vs xs) : Dp K H (.ref a) (.list xs) ∧ (PyData.list xs).canLay0 = true := by
  obtain ⟨h1, h2⟩ := Rps.dp s xs vs g2
  exact ⟨.lst (.inl (.inl g1)) h1, by simpa [PyData.canLay0] using h2⟩
theorem eqL_imp {neg : Bool} {σ : St} {H : Hp} {Q : VK} (hh : lfE X Z (dEqL neg i te) σ H Q) : tVar i σ H fun x H1 => lfE X Z te σ H1 fun y H2 => (if neg then rNeP X.K else rEqP X.K) x y H2 Q := by
  obtain ⟨Γ, G, P, E, r, ⟨h0, t⟩, k, x⟩ := hh
  obtain ⟨xs0, e0⟩ := someL h0
  obtain ⟨a, vs0, ea, h1, _, _, _⟩ := r.objL e0
  refine ⟨.ref a, ea, Γ, G, _, E, r, t, fun d Γ1 G1 v1 H1 q1 r1 s1 p1 => ?_, x⟩
  cases e1 : getL Γ1 i with
  | none => rw [e1] at q1; exact q1.elim
  | some xs =>
    rw [e1] at q1
    obtain ⟨hm, q1⟩ := q1
    obtain ⟨a', vs, ea', g1, g2, g3, g4⟩ := r1.objL e1
    rw [ea] at ea'
    cases ea'
    obtain ⟨f1, f2⟩ := dp_own r1.sub g1 g2
    obtain ⟨f3, f4⟩ := Rp.dp r1.sub d v1 p1
    cases neg with
    | true =>
      rw [if_pos rfl] at q1 ⊢
      exact ⟨_, _, f1, f3, f2, f4, hm, k _ _ _ _ _ q1 r1 s1 (.bl _)⟩
    | false =>
      rw [if_neg Bool.false_ne_true] at q1 ⊢
      exact ⟨_, _, f1, f3, f2, f4, hm, k _ _ _ _ _ q1 r1 s1 (.bl _)⟩
theorem de_eqL (hu : X.A.units + 64 < cLine) (ho : PE X o (tVar i)) (he : DE X Z e te) (hm : behindInMarks .Eq e = false := by rfl) : DE X Z (.Compare o [.Eq] [e] pos) (dEqL false i te) :=
  ⟨PE.imp (pe_cmpR (op_eqP hu) ho he.pe hm) fun σ H Q hh => eqL_imp hh⟩
theorem de_neL (hu : X.A.units + 64 < cLine) (ho : PE X o (tVar i)) (he : DE X Z e te) (hm : behindInMarks .NotEq e = false := by rfl) : DE X Z (.Compare o [.NotEq] [e] pos) (dEqL true i te) :=
  ⟨PE.imp (pe_cmpR (op_neP hu) ho he.pe hm) fun σ H Q hh => eqL_imp hh⟩
theorem tst_imp {t : TD} {σ : St} {H : Hp} {Q : Bool → Hp → Prop} (hh : lfT X Z (dTst t) σ H Q) : lfE X Z t σ H fun z H' => ∃ b, z = .bl b ∧ Q b H' := by
  obtain ⟨Γ, G, P, E, r, t, k, x⟩ := hh
  refine ⟨Γ, G, _, E, r, t, fun d Γ1 G1 v1 H1 q1 r1 s1 p1 => ?_, x⟩
  cases d with
  | bool b => exact ⟨b, p1.bl_inv, k b Γ1 G1 H1 q1 r1 s1⟩
  | _ => exact q1.elim
theorem dt_eqL (hu : X.A.units + 64 < cLine) (ho : PE X o (tVar i)) (he : DE X Z e te) (hm : behindInMarks .Eq e = false := by rfl) : DT X Z (.Compare o [.Eq] [e] pos) (dTst (dEqL false i te)) :=
  ⟨PT.imp (pt_cmpR (op_eqP hu) ho he.pe hm) fun σ H Q hh => eqL_imp (neg := false) (tst_imp hh)⟩
theorem dt_neL (hu : X.A.units + 64 < cLine) (ho : PE X o (tVar i)) (he : DE X Z e te) (hm : behindInMarks .NotEq e = false := by rfl) : DT X Z (.Compare o [.NotEq] [e] pos) (dTst (dEqL true i te)) :=
  ⟨PT.imp (pt_cmpR (op_neP hu) ho he.pe hm) fun σ H Q hh => eqL_imp (neg := true) (tst_imp hh)⟩
end
end DL

set_option Elab.async false
set_option linter.all false
set_option maxRecDepth 100000
set_option maxHeartbeats 4000000
/-! The data layer, part 10: what loops walk. -/
namespace DL
open PySem PySem.Spec PyProof.Rows L2

/-! ### enumerate of a tuple -/
theorem meets_enum1 {v : Value} {o : Obj} {H : Heap → Prop} (B : Begins v o H) :
    Meets (Builtin.«enumerate.__new__» ⟨[.type "enumerate", v], []⟩) (fun _ R s => H s.heap ∧
      R (.ok (.ret (.ref (s.heap.push o).objs.size))) { s with heap := (s.heap.push o).push { cls := .type "enumerate", data := .fields #[.none, .bool false, .ref s.heap.objs.size, rawInt 0, .none, .none] } }) :=
  .of_wp fun prog w A R s h => by
    obtain ⟨hp, g, d, tk, os⟩ := s
    obtain ⟨h1, h⟩ := h
    have hsub := sub_enumerate
    have q1 : ∀ {A' : Around} {E : Value → Shared → Prop} {Q : Value → Shared → Prop}, Q (.ref hp.objs.size) ⟨hp.push o, g, d, tk, os⟩ → wpAny (model prog w) A' (pyIter v) Q E ⟨hp, g, d, tk, os⟩ :=
      fun q => B.iter prog w _ _ ⟨hp, g, d, tk, os⟩ _ h1 q
    wp_walk using q1
    refine wpAny_stack_any fun st => wpAny_pure ?_
    split
    · rename_i c _ _ _ _ _
      cases (c == Value.type "enumerate")
      · wp_walk using q1
        exact ⟨_, rfl, h⟩
      · wp_walk using q1
        exact ⟨_, rfl, h⟩
    · wp_walk using q1
      exact ⟨_, rfl, h⟩
theorem call_enum1 {prog : Program} {w : World} {A : Around} {E : Value → Shared → Prop} {s : Shared} {v : Value} {o : Obj} {H : Heap → Prop} {Q : Value → Shared → Prop} (B : Begins v o H) (h1 : H s.heap)
    (h : ∀ h', IsEnum h' (s.heap.objs.size + 1) s.heap.objs.size 0 .none → h'.get? s.heap.objs.size = some o → h'.objs.size = s.heap.objs.size + 2 →
      (∀ b o, s.heap.get? b = some o → h'.get? b = some o) → Q (.ref (s.heap.objs.size + 1)) { s with heap := h' }) :
    wpAny (model prog w) A (call (.type "enumerate") [v]) Q E s := by
  refine callType_new F.called_enumerate (by decide) (F.typeCall_enumerate_1 _) (F.newCall_enumerate_1 _) (fun obj => F.args_object_init_2 obj _) F.entry_enumerate_new (meets_enum1 B) ⟨h1, ?_⟩
  have hz : (s.heap.push o).objs.size = s.heap.objs.size + 1 := Heap.size_push ..
  show _ ∧ _
  rw [hz]
  have he : IsEnum ((s.heap.push o).push { cls := .type "enumerate", data := .fields #[.none, .bool false, .ref s.heap.objs.size, rawInt 0, .none, .none] }) (s.heap.objs.size + 1) s.heap.objs.size 0 .none := by
    have := Heap.get?_push_size (s.heap.push o) (o := { cls := .type "enumerate", data := .fields #[.none, .bool false, .ref s.heap.objs.size, rawInt 0, .none, .none] }) rfl
    rw [hz] at this
    exact this
  exact ⟨⟨_, he, rfl⟩, h _ he (Heap.get?_push_of_some _ (Heap.get?_push_size _ B.free)) (by rw [Heap.size_push, hz]) fun b o x => Heap.get?_push_of_some _ (Heap.get?_push_of_some _ x)⟩
def IteT (K : PySem.W.Frag) (a : Addr) : It :=
  ⟨fun i H => ∃ (xs : List V) (x : V), SqT K H a xs ∧ xs[i]? = some x, fun i H v H' => ∃ T x, v = .ref T ∧ H T = none ∧ H' = upd H T (.tup [.int (i : Nat), x]) ∧ ∀ xs, SqT K H a xs → xs[i]? = some x, fun i H => ∃ xs : List V, SqT K H a xs ∧ xs.length = i⟩
theorem turn_enumT {P : Program} {w : World} {K : PySem.W.Frag} {elts : List Expr} {kk : Nat} {tpos : Pos} (a e it : Addr) :
    Turn P w K (.Tuple elts kk tpos) (IteT K a) [e, it] e (fun i h => (∃ old, IsEnum h e it ((i : Nat) : Int) old) ∧ h.IsTupleIter it a i ∧ e ≠ it) where
  mem := by simp
  obj := fun i h st b hb => by
    obtain ⟨⟨old, he⟩, ⟨o, ho, hc, hd⟩, _⟩ := st
    have e' : b = e ∨ b = it := by simpa using hb
    rcases e' with z | z
    · rw [z]; exact ⟨_, he, fun v q => nomatch q⟩
    · rw [z]; exact ⟨o, ho, fun v q => by rw [hd] at q; cases q⟩
  keep := fun i h h' st k => let ⟨⟨old, he⟩, hi, hne⟩ := st; ⟨⟨old, k e (by simp) _ he⟩, hi.at fun o q => k it (by simp) o q, hne⟩
  item := by
    intro X hP hw hK hc i pins s σ H E I hf st hg
    subst hP hw hK
    obtain ⟨⟨old, he⟩, hit, hne⟩ := st
    obtain ⟨xs, x, hq, hx⟩ := hg
    obtain ⟨its, rv, p, hz⟩ := I.tuple hq
    obtain ⟨u, hu, ru⟩ := rv.get hx
    have hel : e < s.heap.objs.size := Heap.lt_size he
    have hil : it < s.heap.objs.size := by obtain ⟨_, q, _⟩ := hit; exact Heap.lt_size q
    have ha : a ≠ it := fun z => by
      obtain ⟨o1, q1, c1, _⟩ := id p
      obtain ⟨o2, q2, c2, _⟩ := id hit
      rw [z, q2] at q1
      cases q1
      rw [c2] at c1
      exact absurd c1 (by decide)
    have hea : e ∉ [it, a] := fun z => by
      have z' : e = it ∨ e = a := by simpa using z
      rcases z' with z | z
      · exact hne z
      · obtain ⟨o1, q1, c1, _⟩ := id p
        rw [← z, he] at q1
        cases q1
        exact absurd (show Value.type "enumerate" = Value.type "tuple" from c1) (by decide)
    have hlt : i < its.toArray.size := by rw [List.size_toArray]; exact (List.getElem?_eq_some_iff.mp hu).1
    refine wpAny_pyNext_enum_itemD (Draws.tuple (show X.A.in1.handled = none from I.ok.hd hc) it a ha its.toArray) he ⟨hit, p⟩ hlt hne hea fun y h' tk hP ho hst' hT hsz hk => ?_
    have ey : y = u := by
      have hP' : its.toArray[i]? = some y := hP
      have hu' : its.toArray[i]? = some u := by simpa using hu
      rw [hu'] at hP'
      exact (Option.some.inj hP').symm
    subst ey
    have hit' := hst'.1
    refine ⟨_, rfl, wpAny_letOwnedTupleGo_enum (s := { s with heap := h', toks := tk + 1 }) ho fun h'' he' sb => ?_⟩
    have hT2 : h''.get? s.heap.objs.size = some { cls := .type "tuple", data := .seq #[.int i tk, y] } := (sb.2 _ (Nat.ne_of_gt hel)).trans hT
    have new : ObjOk X.prog X.w (upd H s.heap.objs.size (.tup [.int (i : Nat), x])) h'' s.heap.objs.size (.tup [.int (i : Nat), x]) :=
      ⟨by show 2 ≤ sizeLine; decide, [.int i tk, y], .cons ⟨_, rfl⟩ (.cons ru .nil), ⟨_, hT2, rfl, _, rfl⟩⟩
    have I1 : Inv X pins σ (upd H s.heap.objs.size (.tup [.int (i : Nat), x])) { s with heap := h'', toks := tk + 1 } :=
      I.turnedNew (ch := [e, it]) (fun b ob hb q => (sb.2 b (fun z => hb (by simp [z]))).trans (hk b ob (fun z => hb (by simp [z])) (fun z => hb (by simp [z])) q)) hf (Nat.le_refl _) new
    refine ⟨.ref s.heap.objs.size, _, I1, rfl, ⟨_, x, rfl, I.hok.fresh (Nat.le_refl _), rfl, fun ys hy => by rw [I.tuple_inj hy hq]; exact hx⟩, ⟨⟨y, ?_⟩, hit'.at fun o q => (sb.2 it (Ne.symm hne)).trans q, hne⟩, fun b hb => ?_⟩
    · have e1 : ((i + 1 : Nat) : Int) = (i : Int) + 1 := by omega
      rw [e1]; exact he'
    · have hb' : b < s.heap.objs.size := by
        have e' : b = e ∨ b = it := by simpa using hb
        rcases e' with z | z
        · rw [z]; exact hel
        · rw [z]; exact hil
      rw [upd_ne (Nat.ne_of_lt hb')]
      exact (hf b hb).1
  done := by
    intro X hP hw hK hc i pins s σ H E I hf st hg
    subst hP hw hK
    obtain ⟨⟨old, he⟩, hit, hne⟩ := st
    obtain ⟨xs, hq, hx⟩ := hg
    obtain ⟨its, rv, p, hz⟩ := I.tuple hq
    obtain ⟨f0, f1, f2, f3, f4, f5⟩ := hf it (by simp)
    have hl := rv.length
    have ha : a ≠ it := fun z => by
      obtain ⟨o1, q1, c1, _⟩ := id p
      obtain ⟨o2, q2, c2, _⟩ := id hit
      rw [z, q2] at q1
      cases q1
      rw [c2] at c1
      exact absurd c1 (by decide)
    have ei : i = its.toArray.size := by rw [List.size_toArray]; omega
    have st' : s.heap.IsTupleIter it a its.toArray.size ∧ s.heap.IsTuple a its.toArray := ⟨by rw [← ei]; exact hit, p⟩
    exact wpAny_pyNext_enum_endD (Draws.tuple (show X.A.in1.handled = none from I.ok.hd hc) it a ha its.toArray) he st' fun h' eb => ⟨rfl, I.turned (t' := s.toks) (fun b o hb q => eb b o hb q) f0 f1 f3 f4 f5⟩
  self := fun A i s Q E st h => let ⟨⟨_, he⟩, _⟩ := st; wpAny_pyIter_enum he h
end DL

set_option Elab.async false
set_option linter.all false
set_option maxRecDepth 100000
set_option maxHeartbeats 4000000
/-! The data layer, part 11: what loops walk, by data. -/
namespace DL
open PySem PySem.Spec PyProof.Rows L2

section
variable {K : PySem.W.Frag} {G : Hp}
theorem irel_list {a : Addr} {vs : List V} {xs : List PD} (h : G a = some (.lst vs)) (t : Rps K G vs xs) : IRel K (Itl K a) G xs where
  goes := fun i G' H' s sub hi => by
    have hl : i < vs.length := by rw [t.length]; exact hi
    exact ⟨vs, vs[i], .inl (.inl (sub _ _ (s _ _ h))), List.getElem?_eq_getElem hl⟩
  stops := fun G' H' s sub => ⟨vs, .inl (.inl (sub _ _ (s _ _ h))), by rw [t.length]; exact Nat.le_refl _⟩
  yld := fun i G' H' v H'' s sub hi y => by
    obtain ⟨e, y⟩ := y
    subst e
    obtain ⟨d, e1, p⟩ := t.get (y vs (.inl (.inl (sub _ _ (s _ _ h)))))
    exact ⟨G', d, e1, .rfl', p.up s⟩
theorem irel_tup {a : Addr} {vs : List V} {xs : List PD} (h : SqT K G a vs) (t : Rps K G vs xs) : IRel K (Itt K a) G xs where
  goes := fun i G' H' s sub hi => by
    have hl : i < vs.length := by rw [t.length]; exact hi
    exact ⟨vs, vs[i], sqT_mono (s.trans sub) h, List.getElem?_eq_getElem hl⟩
  stops := fun G' H' s sub => ⟨vs, sqT_mono (s.trans sub) h, by rw [t.length]; exact Nat.le_refl _⟩
  yld := fun i G' H' v H'' s sub hi y => by
    obtain ⟨e, y⟩ := y
    subst e
    obtain ⟨d, e1, p⟩ := t.get (y vs (sqT_mono (s.trans sub) h))
    exact ⟨G', d, e1, .rfl', p.up s⟩
def rngD (lo : Int) (n : Nat) : List PD := (List.range n).map fun i : Nat => .int (lo + (i : Int))
theorem rngD_len {lo : Int} {n : Nat} : (rngD lo n).length = n := by simp [rngD]
theorem irel_rng {lo : Int} {n : Nat} : IRel K (Itr lo n) G (rngD lo n) where
  goes := fun i G' H' s sub hi => by rw [rngD_len] at hi; exact hi
  stops := fun G' H' s sub => by rw [rngD_len]; exact Nat.le_refl n
  yld := fun i G' H' v H'' s sub hi y => by
    obtain ⟨e, y⟩ := y
    subst e y
    rw [rngD_len] at hi
    exact ⟨G', .int (lo + (i : Int)), by simp [rngD, hi], .rfl', .int _⟩
def rngR (lo c : Int) (n : Nat) : List PD := (List.range n).map fun i : Nat => .int (lo + (i : Int) * c)
theorem rngR_len {lo c : Int} {n : Nat} : (rngR lo c n).length = n := by simp [rngR]
theorem irel_rngC {lo c : Int} {n : Nat} : IRel K (Itc lo c n) G (rngR lo c n) where
  goes := fun i G' H' s sub hi => by rw [rngR_len] at hi; exact hi
  stops := fun G' H' s sub => by rw [rngR_len]; exact Nat.le_refl n
  yld := fun i G' H' v H'' s sub hi y => by
    obtain ⟨e, y⟩ := y
    subst e y
    rw [rngR_len] at hi
    exact ⟨G', .int (lo + (i : Int) * c), by simp [rngR, hi], .rfl', .int _⟩
def sgnD (x : Str) : List PD := x.cps.toList.map fun c => .str ⟨#[c]⟩
theorem sgnD_len {x : Str} : (sgnD x).length = x.length := by
  show _ = x.cps.size
  simp [sgnD]
theorem irel_str {x : Str} (h : PyData.strOk x = true) : IRel K (Its x) G (sgnD x) where
  goes := fun i G' H' s sub hi => by
    show i < x.cps.size
    simpa [sgnD] using hi
  stops := fun G' H' s sub => by simp [sgnD, Its]
  yld := fun i G' H' v H'' s sub hi y => by
    obtain ⟨e, c, ec, ev⟩ := y
    subst e ev
    refine ⟨G', .str ⟨#[c]⟩, by simp [sgnD, ec], .rfl', .str _ ?_ (by show 1 ≤ sizeLine; decide)⟩
    unfold PyData.strOk at h ⊢
    have := List.all_eq_true.mp (by rw [Array.all_toList]; exact h) c (by
      have := (Array.getElem?_eq_some_iff.mp ec).2
      have h2 := (Array.getElem?_eq_some_iff.mp ec).1
      rw [← this]; simp)
    simpa using this
theorem irel_revL {a : Addr} {vs : List V} {xs : List PD} (h : G a = some (.lst vs)) (t : Rps K G vs xs) : IRel K (Itv K a vs.length) G xs.reverse where
  goes := fun i G' H' s sub hi => by
    rw [List.length_reverse] at hi
    have hl : i < vs.length := by rw [t.length]; exact hi
    exact ⟨hl, vs, vs[vs.length - 1 - i], .inl (.inl (sub _ _ (s _ _ h))), List.getElem?_eq_getElem (by omega)⟩
  stops := fun G' H' s sub => by
    rw [List.length_reverse]
    show vs.length ≤ xs.length
    rw [t.length]
    exact Nat.le_refl _
  yld := fun i G' H' v H'' s sub hi y => by
    obtain ⟨e, y⟩ := y
    subst e
    rw [List.length_reverse] at hi
    obtain ⟨d, e1, p⟩ := t.get (y vs (.inl (.inl (sub _ _ (s _ _ h)))))
    refine ⟨G', d, ?_, .rfl', p.up s⟩
    rw [List.getElem?_reverse hi, ← t.length]
    exact e1
theorem irel_revT {a : Addr} {vs : List V} {xs : List PD} (h : SqT K G a vs) (t : Rps K G vs xs) : IRel K (RT.ItvT K a vs.length) G xs.reverse where
  goes := fun i G' H' s sub hi => by
    rw [List.length_reverse] at hi
    have hl : i < vs.length := by rw [t.length]; exact hi
    exact ⟨hl, vs, vs[vs.length - 1 - i], sqT_mono (s.trans sub) h, List.getElem?_eq_getElem (by omega)⟩
  stops := fun G' H' s sub => by
    rw [List.length_reverse]
    show vs.length ≤ xs.length
    rw [t.length]
    exact Nat.le_refl _
  yld := fun i G' H' v H'' s sub hi y => by
    obtain ⟨e, y⟩ := y
    subst e
    rw [List.length_reverse] at hi
    obtain ⟨d, e1, p⟩ := t.get (y vs (sqT_mono (s.trans sub) h))
    refine ⟨G', d, ?_, .rfl', p.up s⟩
    rw [List.getElem?_reverse hi, ← t.length]
    exact e1
def enumD (xs : List PD) : List PD := xs.zipIdx.map fun p => .tuple [.int (p.2 : Int), p.1]
theorem enumD_len {xs : List PD} : (enumD xs).length = xs.length := by simp [enumD]
theorem enumD_get {xs : List PD} {i : Nat} {d : PD} (h : xs[i]? = some d) : (enumD xs)[i]? = some (.tuple [.int (i : Int), d]) := by
  simp [enumD, List.getElem?_map, List.getElem?_zipIdx, h]
theorem pair_new {G H : Hp} {p : Addr} {v w : V} {d e : PD} (s : Same G H) (hp : H p = none) (h : Rp K G v d) (h2 : Rp K G w e) : Step G H (upd G p (.tup [v, w])) (upd H p (.tup [v, w])) ∧ Rp K (upd G p (.tup [v, w])) (.ref p) (.tuple [d, e]) :=
  tup_new s hp (.cons h (.cons h2 .nil)) (by show 2 ≤ sizeLine; decide)
theorem irel_enumL {a : Addr} {vs : List V} {xs : List PD} (h : G a = some (.lst vs)) (t : Rps K G vs xs) : IRel K (Ite K a) G (enumD xs) where
  goes := fun i G' H' s sub hi => by
    rw [enumD_len] at hi
    have hl : i < vs.length := by rw [t.length]; exact hi
    exact ⟨vs, vs[i], .inl (.inl (sub _ _ (s _ _ h))), List.getElem?_eq_getElem hl⟩
  stops := fun G' H' s sub => ⟨vs, .inl (.inl (sub _ _ (s _ _ h))), by rw [enumD_len, t.length]; exact Nat.le_refl _⟩
  yld := fun i G' H' v H'' s sub hi y => by
    obtain ⟨T, x, ev, hT, eH, y⟩ := y
    subst ev eH
    obtain ⟨d, e1, p⟩ := t.get (y vs (.inl (.inl (sub _ _ (s _ _ h)))))
    obtain ⟨st, rp⟩ := pair_new sub hT (.int (i : Int)) (p.up s)
    exact ⟨_, _, enumD_get e1, st, rp⟩
theorem irel_enumT {a : Addr} {vs : List V} {xs : List PD} (h : SqT K G a vs) (t : Rps K G vs xs) : IRel K (IteT K a) G (enumD xs) where
  goes := fun i G' H' s sub hi => by
    rw [enumD_len] at hi
    have hl : i < vs.length := by rw [t.length]; exact hi
    exact ⟨vs, vs[i], sqT_mono (s.trans sub) h, List.getElem?_eq_getElem hl⟩
  stops := fun G' H' s sub => ⟨vs, sqT_mono (s.trans sub) h, by rw [enumD_len, t.length]⟩
  yld := fun i G' H' v H'' s sub hi y => by
    obtain ⟨T, x, ev, hT, eH, y⟩ := y
    subst ev eH
    obtain ⟨d, e1, p⟩ := t.get (y vs (sqT_mono (s.trans sub) h))
    obtain ⟨st, rp⟩ := pair_new sub hT (.int (i : Int)) (p.up s)
    exact ⟨_, _, enumD_get e1, st, rp⟩
def zipD (xs ys : List PD) : List PD := (xs.zip ys).map fun p => .tuple [p.1, p.2]
theorem zipD_len {xs ys : List PD} : (zipD xs ys).length = min xs.length ys.length := by simp [zipD]
theorem zipD_get {xs ys : List PD} {i : Nat} {d e : PD} (h : xs[i]? = some d) (h2 : ys[i]? = some e) : (zipD xs ys)[i]? = some (.tuple [d, e]) := by
  simp [zipD, List.getElem?_map, List.getElem?_zip_eq_some, h, h2]
theorem irel_zipL {a b : Addr} {vs ws : List V} {xs ys : List PD} (h : G a = some (.lst vs)) (t : Rps K G vs xs) (h2 : G b = some (.lst ws)) (t2 : Rps K G ws ys) : IRel K (Itz K a b) G (zipD xs ys) where
  goes := fun i G' H' s sub hi => by
    rw [zipD_len] at hi
    have hl : i < vs.length := by rw [t.length]; omega
    have hl2 : i < ws.length := by rw [t2.length]; omega
    exact ⟨vs, ws, vs[i], ws[i], .inl (.inl (sub _ _ (s _ _ h))), .inl (.inl (sub _ _ (s _ _ h2))), List.getElem?_eq_getElem hl, List.getElem?_eq_getElem hl2⟩
  stops := fun G' H' s sub => ⟨vs, ws, .inl (.inl (sub _ _ (s _ _ h))), .inl (.inl (sub _ _ (s _ _ h2))), by rw [zipD_len, t.length, t2.length]; omega⟩
  yld := fun i G' H' v H'' s sub hi y => by
    obtain ⟨T, x, z, ev, hT, eH, y1, y2⟩ := y
    subst ev eH
    obtain ⟨d, e1, p⟩ := t.get (y1 vs (.inl (.inl (sub _ _ (s _ _ h)))))
    obtain ⟨e, e2, p2⟩ := t2.get (y2 ws (.inl (.inl (sub _ _ (s _ _ h2)))))
    obtain ⟨st, rp⟩ := pair_new sub hT (p.up s) (p2.up s)
    exact ⟨_, _, zipD_get e1 e2, st, rp⟩
theorem irel_zipT {a b : Addr} {vs ws : List V} {xs ys : List PD} (h : SqT K G a vs) (t : Rps K G vs xs) (h2 : SqT K G b ws) (t2 : Rps K G ws ys) : IRel K (RZ.ItzT K a b) G (zipD xs ys) where
  goes := fun i G' H' s sub hi => by
    rw [zipD_len] at hi
    have hl : i < vs.length := by rw [t.length]; omega
    have hl2 : i < ws.length := by rw [t2.length]; omega
    exact ⟨vs, ws, vs[i], ws[i], sqT_mono (s.trans sub) h, sqT_mono (s.trans sub) h2, List.getElem?_eq_getElem hl, List.getElem?_eq_getElem hl2⟩
  stops := fun G' H' s sub => ⟨vs, ws, sqT_mono (s.trans sub) h, sqT_mono (s.trans sub) h2, by rw [zipD_len, t.length, t2.length]; omega⟩
  yld := fun i G' H' v H'' s sub hi y => by
    obtain ⟨T, x, z, ev, hT, eH, y1, y2⟩ := y
    subst ev eH
    obtain ⟨d, e1, p⟩ := t.get (y1 vs (sqT_mono (s.trans sub) h))
    obtain ⟨e, e2, p2⟩ := t2.get (y2 ws (sqT_mono (s.trans sub) h2))
    obtain ⟨st, rp⟩ := pair_new sub hT (p.up s) (p2.up s)
    exact ⟨_, _, zipD_get e1 e2, st, rp⟩
end

/-! ### the rules -/
@[simp] def itD : PD → Option (List PD)
  | .list xs => some xs
  | .tuple xs => some xs
  | .str x => some (sgnD x)
  | _ => none
@[simp] def iSq (t : TD) : TLd := fun Γ P E => t Γ (fun d Γ1 => match itD d with
  | some xs => P xs Γ1
  | none => False) E
section
variable {X : Cx} {Z : Dx} {tg e e2 : Expr} {te tb : TD} {p pos : Pos}
def iSeq (K : PySem.W.Frag) (te : TE) : TI := fun σ H R => te σ H fun x H1 => (∃ a, x = .ref a ∧ (∃ xs, SqL K H1 a xs) ∧ R (Itl K a) H1) ∨ (∃ a, x = .ref a ∧ (∃ xs, SqT K H1 a xs) ∧ R (Itt K a) H1) ∨ ∃ z, x = .str z ∧ R (Its z) H1
theorem pi_seq {te : TE} (he : PE X e te) : PI X tg e (iSeq X.K te) := by
  refine ⟨fun pins s σ H R I h => ?_⟩
  refine thn (he.run pins s σ H _ I h) fun v s1 ⟨x, H1, I1, r1, q1⟩ => ?_
  rcases q1 with ⟨a, ex, ⟨xs, hq⟩, q⟩ | ⟨a, ex, ⟨xs, hq⟩, q⟩ | ⟨z, ex, q⟩
  · subst ex
    cases r1
    obtain ⟨its, rv, pl, hz⟩ := I1.list hq
    exact wpAny_pyIter_list pl.isList (pi_one (tk := s1.toks) I1 _ (turn_list a _) ⟨_, Heap.get?_push_size _ rfl, rfl, rfl⟩ q)
  · subst ex
    cases r1
    obtain ⟨its, rv, pl, hz⟩ := I1.tuple hq
    exact wpAny_pyIter_tuple (show s1.heap.IsTuple a its.toArray from pl) (pi_one (tk := s1.toks) I1 _ (turn_tuple a _) ⟨_, Heap.get?_push_size _ rfl, rfl, rfl⟩ q)
  · subst ex
    obtain ⟨t, rfl⟩ := r1
    cases ha : z.cps.all (· < 128)
    · exact wpAny_pyIter_wide ha (pi_one (tk := s1.toks) I1 _ (turn_str _ z t "str_iterator" (.inr rfl)) ⟨_, Heap.get?_push_size _ rfl, rfl, rfl⟩ q)
    · exact wpAny_pyIter_ascii ha (pi_one (tk := s1.toks) I1 _ (turn_str _ z t "str_ascii_iterator" (.inl rfl)) ⟨_, Heap.get?_push_size _ rfl, rfl, rfl⟩ q)
theorem di_seq (he : DE X Z e te) : DI X Z tg e (iSq te) := by
  refine ⟨PI.imp (pi_seq he.pe) fun σ H R hh => ?_⟩
  obtain ⟨Γ, G, P, E, r, t, k, x⟩ := hh
  refine ⟨Γ, G, _, E, r, t, fun d Γ1 G1 v1 H1 q1 r1 s1 p1 => ?_, x⟩
  cases p1 with
  | @lst a vs ds h t hz => exact .inl ⟨a, rfl, ⟨vs, sqL_of h r1.sub⟩, k _ Γ1 G1 _ H1 q1 r1 s1 (irel_list h t) hz⟩
  | @tup a vs ds h t hz => exact .inr (.inl ⟨a, rfl, ⟨vs, sqT_mono r1.sub h⟩, k _ Γ1 G1 _ H1 q1 r1 s1 (irel_tup h t) hz⟩)
  | str z a b => exact .inr (.inr ⟨z, rfl, k _ Γ1 G1 _ H1 q1 r1 s1 (irel_str a) (by rw [sgnD_len]; exact b)⟩)
  | _ => exact q1.elim
/-- range(n), range(a, b) -/
@[simp] def iR1 (t : TD) : TLd := fun Γ P E => t Γ (fun d Γ1 => match d with
  | .int n => -(2 ^ 62) ≤ n ∧ n ≤ 16777216 ∧ P (rngD 0 n.toNat) Γ1
  | _ => False) E
@[simp] def iR2 (t u : TD) : TLd := fun Γ P E => t Γ (fun d Γ1 => u Γ1 (fun e Γ2 => match d, e with
  | .int a, .int b => (-(2 ^ 62) ≤ a ∧ a < 2 ^ 62 ∧ -(2 ^ 62) ≤ b ∧ b < 2 ^ 62) ∧ b - a ≤ 16777216 ∧ P (rngD a (b - a).toNat) Γ2
  | _, _ => False) E) E
theorem di_range1 (hg : Gl X "range") (hm : X.mg "range" = none) (he : DE X Z e te) (hs : starEach [e] X.env = (false, eval e X.env) :: starEach [] X.env := by rfl) : DI X Z tg (.Call (.Name "range" p) [e] [] pos) (iR1 te) := by
  refine ⟨PI.imp (pi_range1 hg hm (pa_cons he.pe pa_nil hs) hs) fun σ H R hh => ?_⟩
  obtain ⟨Γ, G, P, E, r, t, k, x⟩ := hh
  refine ⟨Γ, G, _, E, r, t, fun d Γ1 G1 v1 H1 q1 r1 s1 p1 => ?_, x⟩
  cases d with
  | int n =>
    obtain ⟨h1, h2, q⟩ := q1
    rw [p1.int_inv]
    exact ⟨n, rfl, h1, by omega, k _ Γ1 G1 _ H1 q r1 s1 irel_rng (by rw [rngD_len, sizeLine_eq]; omega)⟩
  | _ => exact q1.elim
theorem di_range2 (hg : Gl X "range") (hm : X.mg "range" = none) (he : DE X Z e te) (he2 : DE X Z e2 tb) (hs : starEach [e, e2] X.env = (false, eval e X.env) :: starEach [e2] X.env := by rfl) (hs2 : starEach [e2] X.env = (false, eval e2 X.env) :: starEach [] X.env := by rfl) (hs3 : starEach [e, e2] X.env = [(false, eval e X.env), (false, eval e2 X.env)] := by rfl) (hs4 : starEach [e2] X.env = [(false, eval e2 X.env)] := by rfl) :
    DI X Z tg (.Call (.Name "range" p) [e, e2] [] pos) (iR2 te tb) := by
  refine ⟨PI.imp (pi_range2 hg hm (pa_cons he.pe (pa_cons he2.pe pa_nil hs2) hs) hs3 hs4) fun σ H R hh => ?_⟩
  obtain ⟨Γ, G, P, E, r, t, k, x⟩ := hh
  refine ⟨Γ, G, _, E, r, t, fun d Γ1 G1 v1 H1 q1 r1 s1 p1 => ⟨Γ1, G1, _, E, r1, q1, fun d2 Γ2 G2 v2 H2 q2 r2 s2 p2 => ?_, x.up s1⟩, x⟩
  cases d with
  | int a =>
    cases d2 with
    | int b =>
      obtain ⟨h1, h2, q⟩ := q2
      rw [p1.int_inv, p2.int_inv]
      exact ⟨a, b, rfl, h1, k _ Γ2 G2 _ H2 q r2 (s1.trans s2) irel_rng (by rw [rngD_len, sizeLine_eq]; omega)⟩
    | _ => exact q2.elim
  | _ => exact q2.elim
/-- reversed(x) -/
@[simp] def iRv (t : TD) : TLd := fun Γ P E => t Γ (fun d Γ1 => match d with
  | .list xs => P xs.reverse Γ1
  | .tuple xs => P xs.reverse Γ1
  | _ => False) E
theorem di_rev (hg : Gl X "reversed") (hm : X.mg "reversed" = none) (he : DE X Z e te) (hs : starEach [e] X.env = (false, eval e X.env) :: starEach [] X.env := by rfl) : DI X Z tg (.Call (.Name "reversed" p) [e] [] pos) (iRv te) := by
  refine ⟨PI.imp (RT.pi_revA hg hm he.pe hs) fun σ H R hh => ?_⟩
  obtain ⟨Γ, G, P, E, r, t, k, x⟩ := hh
  refine ⟨Γ, G, _, E, r, t, fun d Γ1 G1 v1 H1 q1 r1 s1 p1 => ?_, x⟩
  cases p1 with
  | @lst a vs ds h t hz => exact ⟨a, vs, rfl, .inl ⟨sqL_of h r1.sub, k _ Γ1 G1 _ H1 q1 r1 s1 (irel_revL h t) (by rw [List.length_reverse]; exact hz)⟩⟩
  | @tup a vs ds h t hz => exact ⟨a, vs, rfl, .inr ⟨sqT_mono r1.sub h, k _ Γ1 G1 _ H1 q1 r1 s1 (irel_revT h t) (by rw [List.length_reverse]; exact hz)⟩⟩
  | _ => exact q1.elim
/-- reversed(range(..)) -/
def iRvR1 (t : TD) : TLd := fun Γ P E => t Γ (fun d Γ1 => match d with
  | .int n => -(2 ^ 62) ≤ n ∧ n ≤ 16777216 ∧ P (rngR ((n.toNat : Int) - 1) (-1) n.toNat) Γ1
  | _ => False) E
theorem di_revR1 {p2 pos2 : Pos} (hg : Gl X "reversed") (hm : X.mg "reversed" = none) (hgr : Gl X "range") (hmr : X.mg "range" = none) (he : DE X Z e te) (na : starEach [e] X.env = (false, eval e X.env) :: starEach [] X.env := by rfl)
    (hs : starEach [.Call (.Name "range" p2) [e] [] pos2] X.env = (false, eval (.Call (.Name "range" p2) [e] [] pos2) X.env) :: starEach [] X.env := by rfl) : DI X Z tg (.Call (.Name "reversed" p) [.Call (.Name "range" p2) [e] [] pos2] [] pos) (iRvR1 te) := by
  refine ⟨PI.imp (pi_revR hg hm (prg_1 hgr hmr he.pe na) hs) fun σ H R hh => ?_⟩
  obtain ⟨Γ, G, P, E, r, t, k, x⟩ := hh
  refine ⟨Γ, G, _, E, r, t, fun d Γ1 G1 v1 H1 q1 r1 s1 p1 => ?_, x⟩
  cases d with
  | int n =>
    obtain ⟨h1, h2, q⟩ := q1
    refine ⟨n, p1.int_inv, by omega, by omega, h1, by omega, ?_⟩
    have e0 : (0 : Int) + (((n - 0).toNat : Nat) : Int) - 1 = (n.toNat : Int) - 1 := by simp
    have e1 : (n - 0).toNat = n.toNat := by simp
    rw [e0, e1]
    exact k _ Γ1 G1 _ H1 q r1 s1 irel_rngC (by rw [rngR_len, sizeLine_eq]; omega)
  | _ => exact q1.elim
def iRvR2 (t u : TD) : TLd := fun Γ P E => t Γ (fun d Γ1 => u Γ1 (fun e Γ2 => match d, e with
  | .int a, .int b => (-(2 ^ 62) ≤ a ∧ a < 2 ^ 62 ∧ -(2 ^ 62) ≤ b ∧ b < 2 ^ 62) ∧ b - a ≤ 16777216 ∧ P (rngR (a + ((b - a).toNat : Int) - 1) (-1) (b - a).toNat) Γ2
  | _, _ => False) E) E
theorem di_revR2 {p2 pos2 : Pos} (hg : Gl X "reversed") (hm : X.mg "reversed" = none) (hgr : Gl X "range") (hmr : X.mg "range" = none) (he : DE X Z e te) (he2 : DE X Z e2 tb) (na : starEach [e, e2] X.env = (false, eval e X.env) :: starEach [e2] X.env := by rfl)
    (nb : starEach [e2] X.env = (false, eval e2 X.env) :: starEach [] X.env := by rfl) (hp : (backTo pos2 (starEach [e2] X.env)).any (·.1) = false := by rfl)
    (hs : starEach [.Call (.Name "range" p2) [e, e2] [] pos2] X.env = (false, eval (.Call (.Name "range" p2) [e, e2] [] pos2) X.env) :: starEach [] X.env := by rfl) : DI X Z tg (.Call (.Name "reversed" p) [.Call (.Name "range" p2) [e, e2] [] pos2] [] pos) (iRvR2 te tb) := by
  refine ⟨PI.imp (pi_revR hg hm (prg_2 hgr hmr he.pe he2.pe na nb hp) hs) fun σ H R hh => ?_⟩
  obtain ⟨Γ, G, P, E, r, t, k, x⟩ := hh
  refine ⟨Γ, G, _, E, r, t, fun d Γ1 G1 v1 H1 q1 r1 s1 p1 => ⟨Γ1, G1, _, E, r1, q1, fun d2 Γ2 G2 v2 H2 q2 r2 s2 p2 => ?_, x.up s1⟩, x⟩
  cases d with
  | int a =>
    cases d2 with
    | int b =>
      obtain ⟨⟨h1, h2, h3, h4⟩, h5, q⟩ := q2
      exact ⟨a, b, p1.int_inv, p2.int_inv, h1, h2, h3, h4, k _ Γ2 G2 _ H2 q r2 (s1.trans s2) irel_rngC (by rw [rngR_len, sizeLine_eq]; omega)⟩
    | _ => exact q2.elim
  | _ => exact q2.elim
/-- enumerate(x) -/
def iEnA (K : PySem.W.Frag) (ta : TA) : TI := fun σ H R => ta σ H fun vs H1 => ∃ a xs, vs = [.ref a] ∧ ((SqL K H1 a xs ∧ R (Ite K a) H1) ∨ (SqT K H1 a xs ∧ R (IteT K a) H1))
theorem pi_enumA {ta : TA} {tpos : Pos} {elts : List Expr} {kk : Nat} (hg : Gl X "enumerate") (hm : X.mg "enumerate" = none) (ha : PA X [e] ta) (hs : starEach [e] X.env = [(false, eval e X.env)] := by rfl) :
    PI X (.Tuple elts kk tpos) (.Call (.Name "enumerate" p) [e] [] pos) (iEnA X.K ta) := by
  refine ⟨fun pins s σ H R I h => ?_⟩
  refine Call_ (ld_blt I hg hm boot_enumerate (PyProof.Rows.callWith_type1 (thn (ha.run pos pins s σ H _ I h) fun us s1 ⟨vs, H1, I1, r1, q1⟩ => ?_) hs rfl))
  obtain ⟨a, xs, ex, q⟩ := q1
  subst ex
  have fp : ∀ b, b ∈ [s1.heap.objs.size + 1, s1.heap.objs.size] → FpOk X pins H1 b := fun b hb => by
    have e' : b = s1.heap.objs.size + 1 ∨ b = s1.heap.objs.size := by simpa using hb
    have hle : s1.heap.objs.size ≤ b := by
      rcases e' with z | z <;> rw [z] <;> omega
    exact I1.fpOk hle (I1.hok.fresh hle)
  rw [Vals.ref1 r1]
  rcases q with ⟨hq, q⟩ | ⟨hq, q⟩
  · obtain ⟨its, rv, p', hz⟩ := I1.list hq
    refine call_enumerate_list p'.isList fun h' he hit hsz hk => wpAny_pyIter_enum he ?_
    have I2 : Inv X pins σ H1 { s1 with heap := h' } := I1.kept (t' := s1.toks) hk
    exact ⟨s1.heap.objs.size + 1, [s1.heap.objs.size + 1, s1.heap.objs.size], _, _, H1, rfl, I2, turn_enum a (s1.heap.objs.size + 1) s1.heap.objs.size, ⟨⟨.none, he⟩, hit, Nat.succ_ne_self _⟩, fp, q⟩
  · obtain ⟨its, rv, p', hz⟩ := I1.tuple hq
    refine call_enum1 (begins_tuple a its.toArray) p' fun h' he hit hsz hk => wpAny_pyIter_enum he ?_
    have I2 : Inv X pins σ H1 { s1 with heap := h' } := I1.kept (t' := s1.toks) hk
    exact ⟨s1.heap.objs.size + 1, [s1.heap.objs.size + 1, s1.heap.objs.size], _, _, H1, rfl, I2, turn_enumT a (s1.heap.objs.size + 1) s1.heap.objs.size, ⟨⟨.none, he⟩, ⟨_, hit, rfl, rfl⟩, Nat.succ_ne_self _⟩, fp, q⟩
@[simp] def iEn (t : TD) : TLd := fun Γ P E => t Γ (fun d Γ1 => match d with
  | .list xs => P (enumD xs) Γ1
  | .tuple xs => P (enumD xs) Γ1
  | _ => False) E
theorem di_enum {tpos : Pos} {elts : List Expr} {kk : Nat} (hg : Gl X "enumerate") (hm : X.mg "enumerate" = none) (he : DE X Z e te) (hs : starEach [e] X.env = (false, eval e X.env) :: starEach [] X.env := by rfl) : DI X Z (.Tuple elts kk tpos) (.Call (.Name "enumerate" p) [e] [] pos) (iEn te) := by
  refine ⟨PI.imp (pi_enumA hg hm (pa_cons he.pe pa_nil hs) hs) fun σ H R hh => ?_⟩
  obtain ⟨Γ, G, P, E, r, t, k, x⟩ := hh
  refine ⟨Γ, G, _, E, r, t, fun d Γ1 G1 v1 H1 q1 r1 s1 p1 => ?_, x⟩
  cases p1 with
  | @lst a vs ds h t hz => exact ⟨a, vs, rfl, .inl ⟨sqL_of h r1.sub, k _ Γ1 G1 _ H1 q1 r1 s1 (irel_enumL h t) (by rw [enumD_len]; exact hz)⟩⟩
  | @tup a vs ds h t hz => exact ⟨a, vs, rfl, .inr ⟨sqT_mono r1.sub h, k _ Γ1 G1 _ H1 q1 r1 s1 (irel_enumT h t) (by rw [enumD_len]; exact hz)⟩⟩
  | _ => exact q1.elim
/-- zip(x, y): two lists, or two tuples -/
@[simp] def iZp (t u : TD) : TLd := fun Γ P E => t Γ (fun d Γ1 => u Γ1 (fun e Γ2 => match d, e with
  | .list xs, .list ys => P (zipD xs ys) Γ2
  | .tuple xs, .tuple ys => P (zipD xs ys) Γ2
  | _, _ => False) E) E
theorem di_zip {tpos : Pos} {elts : List Expr} {kk : Nat} (hg : Gl X "zip") (hm : X.mg "zip" = none) (he : DE X Z e te) (he2 : DE X Z e2 tb) (hs : starEach [e, e2] X.env = (false, eval e X.env) :: starEach [e2] X.env := by rfl) (hs2 : starEach [e2] X.env = (false, eval e2 X.env) :: starEach [] X.env := by rfl)
    (hpl : (backTo pos (starEach [e2] X.env)).any (·.1) = false := by rfl) : DI X Z (.Tuple elts kk tpos) (.Call (.Name "zip" p) [e, e2] [] pos) (iZp te tb) := by
  refine ⟨PI.imp (RZ.pi_zipA hg hm (pa_cons he.pe (pa_cons he2.pe pa_nil hs2) hs) hs hpl) fun σ H R hh => ?_⟩
  obtain ⟨Γ, G, P, E, r, t, k, x⟩ := hh
  refine ⟨Γ, G, _, E, r, t, fun d Γ1 G1 v1 H1 q1 r1 s1 p1 => ⟨Γ1, G1, _, E, r1, q1, fun d2 Γ2 G2 v2 H2 q2 r2 s2 p2 => ?_, x.up s1⟩, x⟩
  have p1' := p1.up s2.same
  cases p1' with
  | @lst a vs ds h t hz =>
    cases p2 with
    | @lst b ws es h2 t2 hz2 => exact ⟨a, b, vs, ws, rfl, .inl ⟨sqL_of h r2.sub, sqL_of h2 r2.sub, k _ Γ2 G2 _ H2 q2 r2 (s1.trans s2) (irel_zipL h t h2 t2) (by rw [zipD_len]; omega)⟩⟩
    | _ => exact q2.elim
  | @tup a vs ds h t hz =>
    cases p2 with
    | @tup b ws es h2 t2 hz2 => exact ⟨a, b, vs, ws, rfl, .inr ⟨sqT_mono r2.sub h, sqT_mono r2.sub h2, k _ Γ2 G2 _ H2 q2 r2 (s1.trans s2) (irel_zipT h t h2 t2) (by rw [zipD_len]; omega)⟩⟩
    | _ => exact q2.elim
  | _ => exact q2.elim
end
end DL

set_option Elab.async false
set_option linter.all false
set_option maxRecDepth 100000
set_option maxHeartbeats 4000000
/-! The data layer, part 12: within an except suite: lists walked, pairs taken apart, a list comprehension. -/
namespace DL
open PySem PySem.Spec PyProof.Rows L2 HotX L2H

section
variable {prog : Program} {w : World} {A : Around} {E : Value → Shared → Prop} {s : Shared}
theorem next_list_hot {it l x1 : Addr} {i : Nat} {items : Array Value} {Q : Option Value → Shared → Prop} (hot : HotAt A x1 s.heap) (hne : x1 ≠ it)
    (hit : s.heap.IsListIter it l i) (hl : s.heap.IsList l items) (hx : items[i]? = none)
    (hQ : ∀ h', (∀ b o, b ≠ it → s.heap.get? b = some o → h'.get? b = some o) → Q none { s with heap := h' }) : wpAny (model prog w) A (pyNext (.ref it)) Q E s := by
  obtain ⟨hh, o1, vs1, h1, d1, c1⟩ := hot
  obtain ⟨o, ho, hc, hd⟩ := id hit
  obtain ⟨ol, hol, _, nl, hdl⟩ := hl
  unfold pyNext
  refine wpAny_bind (wpAny_attempt (wpAny_callSpecial?_slot (name := Str.ofString "__next__") hit.typeIs slot_listiter_next
    (wpAny_call_entry slot_listiter_next hit.typeIs entry_listiter_next ?_ (args_listiter_next _))))
  show wpAny _ _ (field (.ref it) 0 >>= _) _ _ s
  refine wpAny_bind (wpAny_field ho hd (x := .ref l) rfl ?_)
  show wpAny _ _ (if (Value.ref l == Value.none) = true then _ else _) _ _ s
  rw [if_neg (show ¬ ((Value.ref l == Value.none) = true) from Bool.false_ne_true)]
  show wpAny _ _ (field (.ref it) 1 >>= _) _ _ s
  refine wpAny_bind (wpAny_field ho hd (x := .int i 0) rfl ?_)
  show wpAny _ _ (seqItems? (.ref l) >>= _) _ _ s
  refine wpAny_bind (wpAny_seqItems hol hdl ?_)
  simp only [Int.toNat_natCast, hx]
  refine wpAny_bind (wpAny_rule (wpAny_bind (wpAny_setField ho hd (by simp) ?_)))
  show wpAny _ _ (newExc (.type "StopIteration") [] >>= _) _ _ _
  refine wpAny_bind ?_
  simp only [newExc, newTuple]
  refine wpAny_bind (wpAny_newObj_type ?_ (by size_fits))
  refine wpAny_bind (m := firstArgMember _ _) (wpAny_of_eq (a := Value.none) (by first | rfl | (simp only [firstArgMember]; rfl)) ?_)
  refine wpAny_newObj_type ?_ (by size_fits)
  have k1 := Heap.get?_push_of_some { cls := .type "tuple", data := .seq ([] : List Value).toArray } ((Heap.get?_update_other s.heap (Obj.mapFields (·.setIfInBounds 0 .none)) (Ne.symm hne)).trans h1)
  refine raiseNew_hot ⟨hh, o1, vs1, Heap.get?_push_of_some _ k1, d1, c1⟩ (Nat.ne_of_lt (Heap.lt_size k1)) (Heap.get?_push_size _ rfl) rfl (by first | (simp; done) | (simp; omega)) ?_
  refine wpAny_bind (wpAny_isInstance (T := "StopIteration") (b := true) ⟨_, Heap.get?_update_self _ (Heap.get?_push_size _ rfl) rfl, rfl⟩ isSubtype_stop ?_)
  refine wpAny_pure (hQ _ fun b o hb e => ?_)
  have k2 := Heap.get?_push_of_some { cls := .type "tuple", data := .seq ([] : List Value).toArray } ((Heap.get?_update_other s.heap (Obj.mapFields (·.setIfInBounds 0 .none)) (Ne.symm hb)).trans e)
  rw [Heap.get?_update_other _ _ (Nat.ne_of_gt (Heap.lt_size k2))]
  exact Heap.get?_push_of_some _ k2
theorem next_tup_hot {it t x1 : Addr} {i : Nat} {items : Array Value} {Q : Option Value → Shared → Prop} (hot : HotAt A x1 s.heap) (hne : x1 ≠ it)
    (hit : IsTupIter s.heap it t i) (ht : IsTup s.heap t items) (hx : items[i]? = none)
    (hQ : ∀ h', (∀ b o, b ≠ it → s.heap.get? b = some o → h'.get? b = some o) → Q none { s with heap := h' }) : wpAny (model prog w) A (pyNext (.ref it)) Q E s := by
  obtain ⟨hh, o1, vs1, h1, d1, c1⟩ := hot
  obtain ⟨o, ho, hc, hd⟩ := id hit
  obtain ⟨ol, hol, _, nl, hdl⟩ := ht
  unfold pyNext
  refine wpAny_bind (wpAny_attempt (wpAny_callSpecial?_slot (name := Str.ofString "__next__") hit.typeIs slot_tupleiter_next
    (wpAny_call_entry slot_tupleiter_next hit.typeIs entry_tupleiter_next ?_ (args_tupleiter_next _))))
  show wpAny _ _ (field (.ref it) 0 >>= _) _ _ s
  refine wpAny_bind (wpAny_field ho hd (x := .ref t) rfl ?_)
  show wpAny _ _ (if (Value.ref t == Value.none) = true then _ else _) _ _ s
  rw [if_neg (show ¬ ((Value.ref t == Value.none) = true) from Bool.false_ne_true)]
  show wpAny _ _ (field (.ref it) 1 >>= _) _ _ s
  refine wpAny_bind (wpAny_field ho hd (x := .int i 0) rfl ?_)
  show wpAny _ _ (seqItems? (.ref t) >>= _) _ _ s
  refine wpAny_bind (wpAny_seqItems hol hdl ?_)
  simp only [Int.toNat_natCast, hx]
  refine wpAny_bind (wpAny_rule (wpAny_bind (wpAny_setField ho hd (by simp) ?_)))
  show wpAny _ _ (newExc (.type "StopIteration") [] >>= _) _ _ _
  refine wpAny_bind ?_
  simp only [newExc, newTuple]
  refine wpAny_bind (wpAny_newObj_type ?_ (by size_fits))
  refine wpAny_bind (m := firstArgMember _ _) (wpAny_of_eq (a := Value.none) (by first | rfl | (simp only [firstArgMember]; rfl)) ?_)
  refine wpAny_newObj_type ?_ (by size_fits)
  have k1 := Heap.get?_push_of_some { cls := .type "tuple", data := .seq ([] : List Value).toArray } ((Heap.get?_update_other s.heap (Obj.mapFields (·.setIfInBounds 0 .none)) (Ne.symm hne)).trans h1)
  refine raiseNew_hot ⟨hh, o1, vs1, Heap.get?_push_of_some _ k1, d1, c1⟩ (Nat.ne_of_lt (Heap.lt_size k1)) (Heap.get?_push_size _ rfl) rfl (by first | (simp; done) | (simp; omega)) ?_
  refine wpAny_bind (wpAny_isInstance (T := "StopIteration") (b := true) ⟨_, Heap.get?_update_self _ (Heap.get?_push_size _ rfl) rfl, rfl⟩ isSubtype_stop ?_)
  refine wpAny_pure (hQ _ fun b o hb e => ?_)
  have k2 := Heap.get?_push_of_some { cls := .type "tuple", data := .seq ([] : List Value).toArray } ((Heap.get?_update_other s.heap (Obj.mapFields (·.setIfInBounds 0 .none)) (Ne.symm hb)).trans e)
  rw [Heap.get?_update_other _ _ (Nat.ne_of_gt (Heap.lt_size k2))]
  exact Heap.get?_push_of_some _ k2
/-- a tuple taken apart -/
theorem assign_hot {env : Env} {elts : List Expr} {kk : Nat} {pos : Pos} {t x1 : Addr} {items : Array Value} {Q : Unit → Shared → Prop} (hot : HotAt A x1 s.heap) (ht : IsTup s.heap t items)
    (hn : (assignEach elts env).length = items.size) (hstar : (assignEach elts env).findIdx? (·.1) = none)
    (h : ∀ h', (∀ b o, s.heap.get? b = some o → h'.get? b = some o) → wpAny (model prog w) A (assignInOrder ((assignEach elts env).map (·.2)) items.toList) Q E { s with heap := h' }) :
    wpAny (model prog w) A (assign (.Tuple elts kk pos) env (.ref t)) Q E s := by
  have hlt : t ≠ s.heap.objs.size := by obtain ⟨o, ho, _⟩ := ht; exact Nat.ne_of_lt (Heap.lt_size ho)
  obtain ⟨hh, o1, vs1, h1, d1, c1⟩ := hot
  have nx : x1 ≠ s.heap.objs.size := Nat.ne_of_lt (Heap.lt_size h1)
  rw [assign_Tuple]
  refine wpAny_bind (wpAny_standAt ?_)
  unfold unpack
  rw [hn, hstar]
  refine wpAny_bind (wpAny_holding ?_)
  unfold unpackItems
  refine wpAny_bind ?_
  unfold notIterableAtAll
  refine wpAny_bind (wpAny_specialOf ht.typeIs slot_tuple_iter.lookup (wpAny_pure ?_))
  simp only [Bool.false_eq_true, if_false]
  refine wpAny_bind (wpAny_holding (iter_tuple ht (wpAny_bind (wpAny_holding (draw_tuple hlt items.size 0 _ _ ⟨_, Heap.get?_push_size _ rfl, rfl, rfl⟩ (ht.push _) (by omega) fun h₁ hit₁ hs₁ => ?_)))))
  have hall : List.take items.size (List.drop 0 items.toList) = items.toList := by
    rw [List.drop_zero]; exact List.take_of_length_le (by simp)
  rw [hall, if_neg (by simp)]
  have ht₁ : IsTup h₁ t items := (ht.push _).extBut hs₁.extBut hlt
  refine wpAny_bind (wpAny_holding (next_tup_hot (x1 := x1) ⟨hh, o1, vs1, hs₁.extBut _ _ nx (Heap.get?_push_of_some _ h1), d1, c1⟩ nx hit₁ ht₁ (by simp) fun h₂ he₂ => ?_))
  simp only [Option.isSome_none, Bool.false_eq_true, if_false]
  refine wpAny_pure (h h₂ fun b o e => ?_)
  have hb : b ≠ s.heap.objs.size := Nat.ne_of_lt (Heap.lt_size e)
  exact he₂ b o hb (hs₁.extBut b o hb (Heap.get?_push_of_some _ e))
end
theorem turn_listH {P : Program} {w : World} {K : PySem.W.Frag} {tg : Expr} (a it : Addr) : TurnH P w K tg (Itl K a) [it] it (fun i h => h.IsListIter it a i) where
  mem := by simp
  obj := fun i h st b hb => by
    have e : b = it := by simpa using hb
    subst e
    obtain ⟨o, e, c, d⟩ := st
    exact ⟨o, e, fun v z => by rw [d] at z; cases z⟩
  keep := fun i h h' st k => st.at fun o e => k it (by simp) o e
  item := by
    intro X hP hw hK hc i pins s σ H E I hf st hg
    subst hP hw hK
    obtain ⟨xs, x, hq, hx⟩ := hg
    obtain ⟨its, rv, p, hz⟩ := I.list hq
    obtain ⟨u, hu, ru⟩ := rv.get hx
    obtain ⟨f0, f1, f2, f3, f4, f5⟩ := hf it (by simp)
    refine wpAny_pyNext_list_item st p.isList (x := u) (by simpa using hu) fun h' st' sb => ?_
    have I1 : Inv X pins σ H { s with heap := h' } := I.turned (t' := s.toks) (fun b o hb e => (sb.2 b hb).trans e) f0 f1 f3 f4 f5
    obtain ⟨o, e, c, d⟩ := id st'
    exact ⟨u, rfl, go_of (s := { s with heap := h' }) e c d (by decide) ⟨x, H, I1, ru, ⟨rfl, fun ys hy => by rw [I.list_inj hy hq]; exact hx⟩, st', fun b hb => (hf b hb).1⟩⟩
  done := by
    intro X hP hw hK hc i pins s σ H E I hf st hg
    subst hP hw hK
    obtain ⟨xs, hq, hx⟩ := hg
    obtain ⟨its, rv, p, hz⟩ := I.list hq
    obtain ⟨f0, f1, f2, f3, f4, f5⟩ := hf it (by simp)
    have hl := rv.length
    obtain ⟨q, ⟨hh, v1, e1, c1⟩, hp⟩ := hc
    have hm : q ∈ X.pn ++ pins := List.mem_append_left _ hp
    exact next_list_hot (x1 := q.1) ⟨hh, q.2, v1, (I.pin q hm).1, e1, c1⟩ (f5 q hm) st p.isList (by simp; omega) fun h' eb => ⟨rfl, I.turned (t' := s.toks) eb f0 f1 f3 f4 f5⟩
  self := fun _ _ _ _ _ st h => wpAny_pyIter_listiter st h
section
variable {X : Cx} {tg e : Expr}
theorem pi_listH {te : TE} (he : PE X e te) : PIH X tg e (iList X.K te) := by
  refine ⟨fun pins s σ H R I h => ?_⟩
  refine thn (he.run pins s σ H _ I h) fun v s1 ⟨x, H1, I1, r1, q1⟩ => ?_
  obtain ⟨a, ex, ⟨xs, hq⟩, q⟩ := q1
  subst ex
  cases r1
  obtain ⟨its, rv, p, hz⟩ := I1.list hq
  refine wpAny_pyIter_list p.isList ?_
  refine ⟨s1.heap.objs.size, [s1.heap.objs.size], _, _, H1, rfl, I1.kept (t' := s1.toks) fun b o e => Heap.get?_push_of_some _ e, turn_listH a _, ⟨_, Heap.get?_push_size _ rfl, rfl, rfl⟩, fun b hb => ?_, q⟩
  have e : b = s1.heap.objs.size := by simpa using hb
  subst e
  exact I1.fpOk (Nat.le_refl _) (I1.hok.fresh (Nat.le_refl _))
theorem pg_tupH {es : List Expr} {k : Nat} {t : TGs} {n : Nat} {pos : Pos} (hc : HotC X) (h : PGs X es t) (hn : (assignEach es X.env).length = n := by rfl) (hst : (assignEach es X.env).findIdx? (·.1) = none := by rfl) : PG X (.Tuple es k pos) (gTup X.K n t) := by
  refine ⟨fun pins s σ H v u Q I r hw => ?_⟩
  obtain ⟨a, xs, e1, hq, hl, hw⟩ := hw
  subst e1
  cases r
  obtain ⟨its, rv, ht, hz⟩ := I.tuple hq
  obtain ⟨x1, hot⟩ := hc.at I
  refine assign_hot hot ht (by simp [hn, ← hl, rv.length]) hst fun h' hx => ?_
  exact h.run pins _ σ H xs _ Q (I.kept (t' := s.toks) hx) (by simpa using rv) hw
/-- the context of a block within a suite: the handled exception stays pinned -/
abbrev blkH (X : Cx) (s : Shared) (H : Hp) (scope : Scope) (cenv : Env) (fp : List Addr) (p : Addr × Obj) : Cx := { X.blk s H scope cenv fp with pn := [p] }
theorem inv_blkH {s s' : Shared} {H0 H : Hp} {σ : L2.St} {scope : Scope} {cenv : Env} {fp : List Addr} {p : Addr × Obj} (I : Inv (X.blk s H0 scope cenv fp) [] σ H s') (hp : s'.heap.get? p.1 = some p.2 ∧ H p.1 = none ∧ p.1 ≠ cenv.locals ∧ p.1 ∉ frs X.stack ∧ ∀ v, p.2.data ≠ .cell v) :
    Inv (blkH X s H0 scope cenv fp p) [] σ H s' :=
  ⟨⟨I.ok.mod, I.ok.kind, I.ok.glob, I.ok.blt, I.ok.above, I.ok.inj, I.ok.has, I.ok.cab, I.ok.hd, I.ok.frames, I.ok.stk, I.ok.exf, I.ok.bs, I.ok.bsz, I.ok.noex, I.ok.exfs, I.ok.funs, I.ok.frf⟩, I.os, I.bare, I.base, I.loc, I.cell, I.free, I.freeC,
    fun q hq => by
      have e : q = p := by simpa using (show q ∈ [p] ++ ([] : List (Addr × Obj)) from hq)
      rw [e]
      exact hp, I.hok, I.len⟩
end
end DL

set_option Elab.async false
set_option linter.all false
set_option maxRecDepth 100000
set_option maxHeartbeats 4000000
/-! The data layer, part 13: a list comprehension within an except suite. -/
namespace DL
open PySem PySem.Spec PyProof.Rows L2 HotX L2H

section
variable {X : Cx}
theorem pe_lcH {elt tg iter : Expr} {ifs : List Expr} {scope : Scope} {own : List (Str × Nat)} {pos : Pos} {wi : TI} {g : TG} {tt : TT} {te : TE} {p0 : Addr × Obj} (hot : Hot1 X.A p0) (hp0 : p0 ∈ X.pn) (hN : X.N.Nodup) (hi : PIH X tg iter wi) (ok : BlkOk X.N X.env.scope scope own)
    (hg : ∀ (s : Shared) (H : Hp) (C : Addr) (cl : List (Str × Addr)) (fp : List Addr), PG (blkH X s H scope (compEnvC scope cl C X.env) fp p0) tg g) (ht : ∀ (s : Shared) (H : Hp) (C : Addr) (cl : List (Str × Addr)) (fp : List Addr), PTs (blkH X s H scope (compEnvC scope cl C X.env) fp p0) ifs tt)
    (he : ∀ (s : Shared) (H : Hp) (C : Addr) (cl : List (Str × Addr)) (fp : List Addr), PE (blkH X s H scope (compEnvC scope cl C X.env) fp p0) elt te) (hs : ∀ x, foldedSetIterable iter X.env x = pure x := by intro _; rfl) :
    PE X (.ListComp elt [⟨tg, iter, ifs, 0⟩] scope pos) (tLc wi g tt te (own.map (·.2))) := by
  refine ⟨fun pins s σ H Q I h => ?_⟩
  rw [eval_ListComp]
  have hfree : ∀ y ∈ scope.names, y.2 = .free → ∃ c, X.env.cells.lookup y.1 = some c := fun y hy e => (ok.free y hy e).elim (fun k => I.ok.has _ (.inl k)) fun k => I.ok.has _ (.inr k)
  refine wpAny_comprehension_free (use := none) rfl hs (closure_ok hfree) ok.kind (fun y hy e => by rw [ok.uniq y hy, e])
    (thn (hi.run pins s σ H _ I h) fun xv s1 hx => thn hx fun itv s2 h2 => ?_)
  obtain ⟨it, fp, tn, J, H2, ei, I2, T, st2, f2, q⟩ := h2
  subst ei
  refine wpAny_newObj_type (newEnv_comp ?_) (by show 0 ≤ sizeLine; decide)
  generalize hD : s2.heap.objs.size = D
  have hDn : H2 D = none := I2.hok.fresh (Nat.le_of_eq hD)
  obtain ⟨W, ⟨m0, w0⟩, turn⟩ := q D hDn
  -- the new list's state
  generalize hs3 : ({ s2 with heap := s2.heap.push { cls := .type "list", data := .seq ([] : List Value).toArray } } : Shared) = s3
  have h3 : s3.heap = s2.heap.push { cls := .type "list", data := .seq ([] : List Value).toArray } := by rw [← hs3]
  have I3 : Inv X pins σ (upd H2 D (.lst [])) s3 := by
    rw [← hs3]
    refine I2.laid (t' := s2.toks) (fun b o e => Heap.get?_push_of_some _ e) (Nat.le_of_eq hD) ⟨Nat.zero_le _, [], 0, .nil, ?_⟩
    rw [← hD]
    exact Heap.get?_push_size _ rfl
  have f3 : ∀ b ∈ fp, FpOk X pins (upd H2 D (.lst [])) b ∧ b < s3.heap.objs.size := fun b hb => by
    obtain ⟨o, e, _⟩ := T.obj _ _ st2 b hb
    have hlt := Heap.lt_size e
    refine ⟨⟨?_, (f2 b hb).2⟩, by rw [h3, Heap.size_push]; exact Nat.lt_succ_of_lt hlt⟩
    rw [upd_ne (by rw [← hD]; exact Nat.ne_of_lt hlt)]
    exact (f2 b hb).1
  have st3 : tn 0 s3.heap := T.keep _ _ _ st2 fun b _ o e => by rw [h3]; exact Heap.get?_push_of_some _ e
  have I4 := block_start I3 ok hN f3
  have pg := hg s3 (upd H2 D (.lst [])) s3.heap.objs.size (cellsFrom (s3.heap.objs.size + 1) scope.names (cloFrom X.env.cells scope.names [])) fp
  have pt := ht s3 (upd H2 D (.lst [])) s3.heap.objs.size (cellsFrom (s3.heap.objs.size + 1) scope.names (cloFrom X.env.cells scope.names [])) fp
  have pe := he s3 (upd H2 D (.lst [])) s3.heap.objs.size (cellsFrom (s3.heap.objs.size + 1) scope.names (cloFrom X.env.cells scope.names [])) fp
  show codeAny _ _ (.compStart (.ListComp elt [⟨tg, iter, ifs, 0⟩] scope pos) 0 (.ref it) (.ref D) (compEnvC scope (cellsFrom (s3.heap.objs.size + 1) scope.names (cloFrom X.env.cells scope.names [])) s3.heap.objs.size X.env)) (compPost (model X.prog X.w) X.A X.xe none (EP X pins σ Q) (.ref D) s3.heap.objs.size) { s3 with heap := pushCells (s3.heap.push { cls := .type "dict", data := .dict #[] }) scope.names }
  have nfp : ∀ b ∈ fp, (upd H2 D (.lst [])) b = none := fun b hb => (f3 b hb).1.1
  -- the handled exception
  have P3 := I3.pin p0 (List.mem_append_left _ hp0)
  have hlt0 : p0.1 < s3.heap.objs.size := Heap.lt_size P3.1
  have hst0 : p0.1 ∉ frs X.stack := fun hm => (List.mem_cons.mp (I3.stkSub p0.1 hm)).elim P3.2.2.1 P3.2.2.2.1
  generalize hce : compEnvC scope (cellsFrom (s3.heap.objs.size + 1) scope.names (cloFrom X.env.cells scope.names [])) s3.heap.objs.size X.env = ce at I4 pg pt pe ⊢
  have cL : ce.locals = s3.heap.objs.size := by subst hce; rfl
  generalize hH3 : upd H2 D (.lst []) = H3 at I3 I4 pg pt pe w0 nfp f3 P3
  generalize hs4 : ({ s3 with heap := pushCells (s3.heap.push { cls := .type "dict", data := .dict #[] }) scope.names } : Shared) = s4 at I4 ⊢
  have kp4 : ∀ b o, s3.heap.get? b = some o → s4.heap.get? b = some o := fun b o e => by rw [← hs4]; exact pushCells_keeps _ _ _ _ (Heap.get?_push_of_some _ e)
  have I4' : Inv (blkH X s3 H3 scope ce fp p0) [] (L2.wipe σ (own.map (·.2))) H3 s4 := inv_blkH I4 ⟨kp4 _ _ P3.1, P3.2.1, by rw [cL]; exact Nat.ne_of_lt hlt0, hst0, P3.2.2.2.2⟩
  have hc : HotC (blkH X s3 H3 scope ce fp p0) := ⟨p0, hot, by simp⟩
  have st4 : tn 0 s4.heap := T.keep _ _ _ st3 fun b _ o e => kp4 _ _ e
  have stat : ∀ {σ' : L2.St} {H' : Hp} {s' : Shared}, Inv (blkH X s3 H3 scope ce fp p0) [] σ' H' s' → (∀ b ∈ fp, H' b = none) → ∀ b ∈ fp, FpOk (blkH X s3 H3 scope ce fp p0) [] H' b := fun {σ' H' s'} I' hn b hb =>
    ⟨hn b hb, (I'.ok.exf b hb).1, I'.ok.exfs b hb, .inl hb, fun x c e => (I'.ok.exf b hb).2 x c e, fun p hp => by
      have e : p = p0 := by simpa using (show p ∈ [p0] ++ ([] : List (Addr × Obj)) from hp)
      rw [e]
      exact (f3 b hb).1.2.2.2.2.2 p0 (List.mem_append_left _ hp0)⟩
  have loop : codeAny (model X.prog X.w) X.A (.compLoop (.ListComp elt [⟨tg, iter, ifs, 0⟩] scope pos) 0 (.ref it) (.ref D) ce) (compPost (model X.prog X.w) X.A X.xe none (EP X pins σ Q) (.ref D) s3.heap.objs.size) s4 := by
    refine compLoop_any (fun n s' => ∃ i H', Inv (blkH X s3 H3 scope ce fp p0) [] (L2.wipe σ (own.map (·.2))) H' s' ∧ tn i s'.heap ∧ (∀ b ∈ fp, H' b = none) ∧ W i n H') ?_ m0 ⟨0, H3, I4', st4, nfp, w0⟩
    rintro n s5 ⟨i, H5, I5, st5, n5, w5⟩
    rcases turn i n H5 w5 with ⟨stop, qq⟩ | ⟨go, Nx, hNx, step⟩
    · refine thnF (T.done (blkH X s3 H3 scope ce fp p0) rfl rfl rfl hc i [] s5 _ H5 (fun _ _ => False) I5 (stat I5 n5) st5 stop) fun r s6 ⟨hr, I6⟩ => ?_
      subst hr
      have I7 : Inv X pins σ H5 s6 := I3.call' (ch := fp) I6.os I6.base I6.hok I6.bare fun b hb => ⟨(f3 b hb).1.2.2.2.1, (f3 b hb).1.2.1, (f3 b hb).1.2.2.2.2.1, (f3 b hb).1.2.2.2.2.2⟩
      have nC : H5 s3.heap.objs.size = none := by
        have z : H5 ce.locals = none := I6.free
        rw [cL] at z
        exact z
      obtain ⟨m, hn, _⟩ := I6.loc
      have hn : s6.heap.Ns ce.locals m := hn
      rw [cL] at hn
      obtain ⟨g0, g1, g2, g3, g4, g5⟩ := I3.fpOk (Nat.le_refl _) nC
      exact ⟨m, hn, fun h'' sb => ⟨.ref D, H5, I7.turned (t' := s6.toks) (fun b o hb e => (sb.2 b hb).trans e) g0 g1 g3 g4 g5, rfl, qq⟩⟩
    · refine thnF (T.item (blkH X s3 H3 scope ce fp p0) rfl rfl rfl hc i [] s5 _ H5 (fun _ _ => False) I5 (stat I5 n5) st5 go) fun r s6 ⟨u, hr, h6⟩ => ?_
      subst hr
      refine thnF h6 fun _ s7 ⟨x, H7, I7, r7, y7, st7, n7⟩ => ?_
      have I7' := I7.pinned (stat I7 n7) (T.obj _ _ st7)
      refine thnF (pg.run _ s7 _ H7 x u _ I7' r7 (step x H7 y7)) fun _ s8 ⟨σ8, H8, I8, hw8, q8⟩ => ?_
      refine thnF (pt.run _ s8 σ8 H8 _ I8 q8) fun b s9 ⟨H9, I9, q9⟩ => ?_
      have fin : ∀ {s' : Shared} {H' : Hp}, Inv (blkH X s3 H3 scope ce fp p0) ([] ++ pinsAt fp s7.heap) σ8 H' s' → Nx H' → ∃ m, m < n ∧ ∃ i H', Inv (blkH X s3 H3 scope ce fp p0) [] (L2.wipe σ (own.map (·.2))) H' s' ∧ tn i s'.heap ∧ (∀ b ∈ fp, H' b = none) ∧ W i m H' := fun {s' H'} I' nx => by
        obtain ⟨m', hm, w'⟩ := hNx H' nx
        have pin' : ∀ b ∈ fp, ∀ o, s7.heap.get? b = some o → s'.heap.get? b = some o ∧ H' b = none := fun b hb o e =>
          let z := I'.pin (b, o) (List.mem_append_right _ (List.mem_append_right _ (mem_pinsAt hb e)))
          ⟨z.1, z.2.1⟩
        have hl : (L2.wipe σ (own.map (·.2))).length = σ8.length := by rw [← hw8, L2.wipe_length]
        refine ⟨m', hm, i + 1, H', (I'.unpinned (pins := [])).weak hl (fun j v e => ?_), T.keep _ _ _ st7 fun b hb o e => (pin' b hb o e).1, fun b hb => ?_, w'⟩
        · rw [← hw8] at e
          exact (wipe_some e).1
        · obtain ⟨o, e, _⟩ := T.obj _ _ st7 b hb
          exact (pin' b hb o e).2
      cases b with
      | false =>
        simp only [Bool.false_eq_true, if_false] at q9 ⊢
        exact fin I9 q9
      | true =>
        simp only [if_true] at q9 ⊢
        refine thnF (pe.run _ s9 σ8 H9 _ I9 q9) fun z s10 ⟨yv, H10, I10, r10, acc, hD10, hz10, nx⟩ => ?_
        exact app_ok (X := blkH X s3 H3 scope ce fp p0) I10 hD10 hz10 r10 fun s11 I11 => fin I11 nx
  exact codeAny_compStart_list loop (T.self X.A 0 _ _ _ st4 loop)
end
end DL

set_option Elab.async false
set_option linter.all false
set_option maxRecDepth 100000
set_option maxHeartbeats 4000000
/-! The data layer, part 14: own errors: their making, raise, isinstance and field of a caught one. -/
namespace DL
open PySem PySem.Spec PyProof.Rows L2

/-! ### C(e): the made object's context is None -/
section
variable {X : Cx} {e : Expr} {es : List Expr} {ta : TA} {p pos : Pos}
theorem pmk_oexN {CX : CXT} {x : Str} {C fI : Addr} {k : Nat} {fd : FuncData} {ps : List Str} {sp : Sp} (T : OexC X.K C) (iC : PySem.W.findIn X.K (.ref C) "__init__" = some (some (.ref fI))) (tI : PySem.W.typeIn X.K (.ref fI) = some (.type "function"))
    (F1 : FnOk X.prog X.w X.K X.mg X.base CX k fI fd ps sp) (hr : Room (k + 1) X.A) (hb : Binds X.K fd ps []) (hx : Passes CX X (fun _ _ _ => False)) (hg : Gl X x) (hm : X.mg x = some (.ref C)) (ha : PA X (e :: es) ta)
    (hdb : (x == ("__debug__" : Str)) = false := by decide) (he : starEach (e :: es) X.env = (false, eval e X.env) :: starEach es X.env := by rfl) (hpl : (backTo pos (starEach es X.env)).any (·.1) = false := by rfl) :
    L2N.PMk X (.Call (.Name x p) (e :: es) [] pos) (tMkO C sp [] ta) := by
  intro pins s σ H Q I h
  obtain ⟨nm, q, N, bs, bm, sn, sub, ab, col, dd, k0, k1, k2, k3, k5, hC, hbm⟩ := T.cls
  refine wpAny_Call_Name_kw (ld_glob I hg hm ?_ hdb)
  refine PySem.W.callWith_K (h₀ := X.base) I.ok.mod.kin T.kC (thn (ha.run pos pins s σ H _ I h) fun us s1 ⟨vs, H1, I1, r1, hz, q1⟩ => ⟨I1.kIn, ?_⟩) he hpl
  show wpAny _ _ (call (.ref C) us) _ _ _
  obtain ⟨hp, g, dr, tk, os⟩ := s1
  have hsz : hp.objs.size ≤ hp.objs.size + 1 := Nat.le_succ _
  have hq := q1 (hp.objs.size + 1) (I1.hok.fresh hsz)
  rw [List.append_nil] at hq
  have kk : ∀ b o, hp.get? b = some o → ((hp.push (PySem.W.kdv_tup us)).push (PySem.HandSPX.excO C hp.objs.size)).get? b = some o := fun b o e => Heap.get?_push_of_some _ (Heap.get?_push_of_some _ e)
  have hget : ((hp.push (PySem.W.kdv_tup us)).push (PySem.HandSPX.excO C hp.objs.size)).get? (hp.objs.size + 1) = some (PySem.HandSPX.excO C hp.objs.size) := by heap_get
  have I2 : Inv X pins σ (upd H1 (hp.objs.size + 1) (exo (hp.objs.size + 1) C none)) ⟨(hp.push (PySem.W.kdv_tup us)).push (PySem.HandSPX.excO C hp.objs.size), g, dr, tk, os⟩ :=
    I1.laid (t' := tk) (a := hp.objs.size + 1) (o := exo (hp.objs.size + 1) C none) (h' := (hp.push (PySem.W.kdv_tup us)).push (PySem.HandSPX.excO C hp.objs.size)) kk hsz (exo_ok hget)
  have r2 : Vals (V.ref (hp.objs.size + 1) :: vs) (Value.ref (hp.objs.size + 1) :: us) := .cons rfl r1
  have hl : (Value.ref (hp.objs.size + 1) :: us ++ []).length = ps.length := by
    have e := r2.length
    rw [F1.len _ _ _ _ hq] at e
    rw [List.append_nil]
    exact e.symm
  have hus : us.length ≤ sizeLine := by
    rw [← Paired.length r1, sizeLine_eq]
    omega
  have hbs := hb ⟨(hp.push (PySem.W.kdv_tup us)).push (PySem.HandSPX.excO C hp.objs.size), g, dr, tk, os⟩ (Value.ref (hp.objs.size + 1) :: us) I2.kIn hl
  rw [List.append_nil] at hbs
  refine wpAny_call (PySem.HandSPX.call_own F.excBase_ValueError (fun Y => PySem.HandSPX.refsVE_contains Y bm hbm) (I1.kIn _ _ hC) (PySem.W.looks_findIn I1.kIn iC) (fun self => PySem.W.bind_fn I1.kIn self tI) hus
    (codeAny_mono (F1.run _ X.stack _ _ ⟨Value.ref (hp.objs.size + 1) :: us, []⟩ (Value.ref (hp.objs.size + 1) :: us) _ _ (fun _ _ _ => False) (hr.make C us []) (I2.env0.make C us []) hbs r2 hq) fun r s' hq' => ?_))
  cases r with
  | error er => exact hx pins σ _ _ er s' I2 hq'
  | ok fl =>
    cases fl with
    | ret u =>
      obtain ⟨v, H2, os2, bare2, un2, hok2, rv, ev, d, fs, ea, ed, hd1, q2⟩ := hq'
      subst ev
      obtain ⟨h2, g2, d2, t2, os'⟩ := s'
      obtain ⟨t0, G, J, kG, ge, hoe, na⟩ := mk_end0 (d2 := d2) (t2 := t2) I1 hsz kk un2 hok2 os2 bare2 ea ed hd1
      exact ⟨rv, hp.objs.size + 1, _, _, ⟨G, g2, d2, t2, os'⟩, _, .ref C, some d, rfl, J, kG, ge, hoe, ⟨rfl, rfl, fun vs e => by cases e; rfl⟩, rfl, rfl, na, rfl, bare2, raises_own T.exC T.tyC, q2⟩
    | next => exact False.elim hq'
    | brk => exact False.elim hq'
    | cont => exact False.elim hq'
end
/-! ### __init__(self, what): ValueError.__init__(self, what); self.what = what -/
def spI (K : PySem.W.Frag) : Sp := fun vs H Q _ => ∃ (a C : Addr) (v : V), vs = [.ref a, v] ∧ OexC K C ∧ PySem.W.findIn K (.ref C) "what" = some none ∧ H a = some (exo a C none) ∧ ∀ dx, H dx = none → dx ≠ a → Q .non (upd (upd H dx (exd dx [(("what" : Str), v)])) a (exo a C (some dx)))
/-- what a class of errors must be -/
structure ErrC (K : PySem.W.Frag) (mg : Str → Option Value) (x : Str) (C fI : Addr) : Prop where
  oex : OexC K C
  no : PySem.W.findIn K (.ref C) "what" = some none
  iC : PySem.W.findIn K (.ref C) "__init__" = some (some (.ref fI))
  tI : PySem.W.typeIn K (.ref fI) = some (.type "function")
  mg : mg x = some (.ref C)
section
variable {X : Cx} {Z : Dx} {e : Expr} {te : TD} {p pos pos2 : Pos}
/-- raise x(e) -/
@[simp] def sRaise (x : Str) (te : TD) : TSd := fun D Γ => te Γ (fun d Γ1 => D.ex ⟨x, d⟩ Γ1) D.ex
theorem ds_raise {x : Str} {C fI : Addr} {k : Nat} {fd : FuncData} {ps : List Str} {CX : CXT} (hc : X.calm = true) (tk : L2N.Takes X Z.W) (T : ErrC X.K X.mg x C fI) (F1 : FnOk X.prog X.w X.K X.mg X.base CX k fI fd ps (spI X.K)) (hr : Room (k + 1) X.A) (hb : Binds X.K fd ps []) (hx : Passes CX X (fun _ _ _ => False)) (hg : Gl X x)
    (he : DE X Z e te) (hdb : (x == ("__debug__" : Str)) = false := by decide) (hs : starEach [e] X.env = (false, eval e X.env) :: starEach [] X.env := by rfl) (hpl : (backTo pos (starEach [] X.env)).any (·.1) = false := by rfl) :
    DS X Z (.Raise (some (.Call (.Name x p) [e] [] pos)) none pos2) (sRaise x te) := by
  refine ⟨PS.imp (L2N.ps_raise hc tk (pmk_oexN T.oex T.iC T.tI F1 hr hb hx hg T.mg (pa_cons he.pe pa_nil hs) hdb hs hpl)) fun D σ H hh => ?_⟩
  obtain ⟨Γ, G, DD, r, t, l⟩ := hh
  refine ⟨Γ, G, _, _, r, t, fun d Γ1 G1 v1 H1 q1 r1 s1 p1 => ⟨by show 1 ≤ 1000; decide, fun a ha => ⟨a, C, v1, rfl, T.oex, T.no, upd_same, fun dx hdx hne => ?_⟩⟩, (l.ex σ).adv⟩
  have hd1 : H1 dx = none := by
    rw [upd_ne hne] at hdx
    exact hdx
  refine ⟨rfl, dx, [(("what" : Str), v1)], upd_same, by rw [upd_ne hne, upd_same], hd1, ?_⟩
  have eH : upd (del (upd (upd (upd H1 a (exo a C none)) dx (exd dx [(("what" : Str), v1)])) a (exo a C (some dx))) a) dx (.xd [(("what" : Str), v1)]) = upd H1 dx (.xd [(("what" : Str), v1)]) := by
    funext b
    by_cases hb : b = dx
    · rw [hb, upd_same, upd_same]
    · rw [upd_ne hb, upd_ne hb]
      by_cases ha2 : b = a
      · rw [ha2, del_same, ha]
      · rw [del_ne ha2, upd_ne ha2, upd_ne hb, upd_ne ha2]
  rw [eH]
  have nt : ∀ ps, HO.xd [(("what" : Str), v1)] ≠ .tbl ps := fun ps z => by cases z
  refine (l.ex σ) ⟨x, d⟩ Γ1 (upd G1 dx (.xd [(("what" : Str), v1)])) _ _ _ q1 (r1.alloc hd1 nt) (s1.same.trans (same_new (r1.free hd1))) ⟨C, dx, v1, rfl, T.mg, rfl, upd_same, p1.up (same_new (r1.free hd1))⟩
end
section
variable {P : Program} {w : World} {K : PySem.W.Frag} {mg : Str → Option Value} {base : Heap}
/-- the walk of such an __init__ -/
theorem init_ok {qual : Str} {f : Addr} {fd : FuncData} {N ps : List Str} {st : Stmt} {p1 p2 p3 p4 p5 p6 p7 p8 p9 p10 : Pos} {CX : CXT} {cdv : Value} (F : FunC K "__init__" qual st f fd cdv) (S : FnScope N ps (defScope st)) (hlen : ps.length = 2) (h0 : N[0]? = some ("self" : Str)) (h1 : N[1]? = some ("what" : Str))
    (v0 : Vis (defScope st) "self") (v1 : Vis (defScope st) "what") (hg : (defScope st).names.lookup ("ValueError" : Str) = some .globalImplicit) (hm : mg "ValueError" = none) (vV : PySem.W.findCls K (.type "ValueError") (.type "type") "__init__" = some (.val (.builtin "ValueError.__init__")))
    (hev : ∀ (n : Nat), ∃ pl : Sem Bool, eval (.Call (.Attribute (.Name "ValueError" p1) "__init__" p2) [.Name "self" p3, .Name "what" p4] [] p5) (envOfC qual (defScope st) n f cdv) = (do
      let ov ← eval (.Name "ValueError" p1) (envOfC qual (defScope st) n f cdv)
      standAt p2.atName
      let (f', first) ← holding [ov] (getMethod ov "__init__" pl)
      callWith p5 f' first (backTo p5 (starEach [.Name "self" p3, .Name "what" p4] (envOfC qual (defScope st) n f cdv))) (backToKw p5 (keywordEach [] (envOfC qual (defScope st) n f cdv)))))
    (hb : defBody st = [.Expr (.Call (.Attribute (.Name "ValueError" p1) "__init__" p2) [.Name "self" p3, .Name "what" p4] [] p5) p6, .Assign [.Attribute (.Name "self" p7) "what" p8] (.Name "what" p9) p10]) : FnOk P w K mg base CX 1 f fd ps (spI K) := by
  obtain ⟨oc, od, kV, doc, pm, an, ct, osl, rfl, lk, hcd⟩ := F.ex
  refine fn_of lk hcd S (fun vs H Q E h => by obtain ⟨a, C, v, e, _⟩ := h; rw [e, hlen]; rfl) fun A outer s H vs Q E hr h => ?_
  obtain ⟨a, C, v, rfl, T, no, ea, q⟩ := h
  rw [hb]
  obtain ⟨pl, hpl⟩ := hev s.heap.objs.size
  refine ⟨_, pss_cons (ps_expr (pe_veinit (pl := pl) (hc := hpl) hg hm vV (pa_cons (pe_var h0 v0) (pa_cons (pe_var h1 v1) pa_nil)))) (pss_one (ps_ost (pe_var h0 v0) (pe_var h1 v1))), ?_⟩
  have s0 : (L2.start N [V.ref a, v])[0]? = some (some (V.ref a)) := rfl
  have s1 : (L2.start N [V.ref a, v])[1]? = some (some v) := rfl
  exact ⟨.ref a, s0, v, s1, a, C, [v], rfl, by show 1 ≤ 1000; decide, T, ea, v, s1, .ref a, s0, a, C, rfl, T, no, .inl ⟨ea, fun dx n1 n2 => q dx n1 n2⟩⟩
end
end DL

set_option Elab.async false
set_option linter.all false
set_option maxRecDepth 100000
set_option maxHeartbeats 4000000
/-! The data layer, part 15: within an except suite, by data. -/
namespace DL
open PySem PySem.Spec PyProof.Rows L2 HotX L2H

/-! ### isinstance of an error that has a dict -/
section
open PySem.W
variable {prog : Program} {w : World} {A : Around} {E : Value → Shared → Prop} {s : Shared} {K : Frag} {x D : Addr} {ox : Obj}
theorem find_cls {C : Addr} {od : Option Obj} {name : Str} {a g own : Value} (hc : (clsIn K C).isSome = true) (ha : findIn K (.ref C) name = some (some a)) (hg : specialIn K a "__get__" = some (some g)) (ht : takesIn K a = some true) : findObj K C od name = some (.bind g a) := by
  obtain ⟨cd, hc⟩ := Option.isSome_iff_exists.mp hc
  unfold findObj
  rw [hc, Option.bind_some, ha, Option.bind_some]
  simp [hg, ht]
theorem get_cls {od : Option Obj} {Q : Option Value → Shared → Prop} (hga : findIn K (.ref D) "__getattribute__" = some (some (.builtin "BaseException.__getattribute__"))) (hgt : findIn K (.ref D) "__getattr__" = some none) (hsub : subIn K (.ref D) (.type "BaseException") = some true)
    (hdct : hasDictIn K D = true) (ha : findIn K (.ref D) "__class__" = some (some (.builtin "object.__class__")))
    (hn : specialIn K (.builtin "object.__class__") "__get__" = some (some (.builtin "getset_descriptor.__get__"))) (htk : takesIn K (.builtin "object.__class__") = some true) (hm : mroIn K D (.type "object") = some true)
    (X : K.In s.heap) (I : InstAt s.heap x ox D od) (h : Q (some (.ref D)) { s with toks := s.toks + 1 }) : wpAny (model prog w) A (getAttr? (.ref x) "__class__") Q E s := by
  have hf : findObj K D od "__class__" = some (.bind (.builtin "getset_descriptor.__get__") (.builtin "object.__class__")) := find_cls (own := .none) (by obtain ⟨cd, hc, _⟩ := any_some hdct; rw [hc]; rfl) ha hn htk
  obtain ⟨hp, g, d, t, os⟩ := s
  have L0 := I.type (M := model prog w)
  have L1 := looks_findIn (M := model prog w) X hga
  have L2 := looks_findIn (M := model prog w) X hgt
  have L3 := looks_find (M := model prog w) X I hf
  have sub : Looks (model prog w) hp (isInstance (.ref x) (.type "BaseException")) true := L0.andThen (looks_subIn X hsub)
  have hx0 : (false && onTheHeap (Value.builtin "BaseException.__getattribute__")) = false := rfl
  have hx2 : (Value.builtin "BaseException.__getattribute__" == Value.builtin "object.__getattribute__") = false := by decide +kernel
  have hx1 : (onTheHeap (Value.ref D) && Value.builtin "BaseException.__getattribute__" == Value.builtin "object.__getattribute__") = false := by rw [hx2]; rfl
  unfold getAttr? getAttrBy? getAttrBy
  refine wpAny_bind (wpAny_mkText (wpAny_bind (wpAny_attempt (wpAny_holding (wpAny_bind (L0.at (wpAny_bind (L1.at ?_))))))))
  show wpAny _ _ (if (onTheHeap (Value.ref D) && Value.builtin "BaseException.__getattribute__" == Value.builtin "object.__getattribute__") = true then _ else _) _ _ _
  rw [hx1, if_neg Bool.false_ne_true]
  unfold getAttrByItsOwn hookBefore
  refine wpAny_bind ?_
  rw [if_pos (show onTheHeap (Value.ref D) = true from rfl)]
  refine L2.at ?_
  refine wpAny_bind (wpAny_attempt (wpAny_holding ?_))
  unfold callGetattribute
  rw [hx0, if_neg Bool.false_ne_true]
  unfold boundAndCalled
  rw [PySem.F.excAttr_ValueError.ga.bind (.ref x)]
  refine wpAny_bind (wpAny_pure ?_)
  show wpAny _ _ (call (.builtin "BaseException.__getattribute__") [.ref x, .str "__class__" t]) _ _ _
  refine wpAny_call (codeAny_call_builtin PySem.F.excAttr_ValueError.ga.plain PySem.F.entry_bexc_ga ?_)
  refine @check_slot (model prog w) _ _ ⟨hp, g, d, t + 1, os⟩ "BaseException.__getattribute__" "BaseException" "__getattribute__" (.ref x) [.str "__class__" t] [] _ (by decide +kernel) (by decide +kernel) sub (PySem.F.args_bexc_ga (.ref x) (.str "__class__" t)) ?_
  unfold Builtin.«object.__getattribute__»
  refine wpAny_bind (wpAny_of_eq (a := ((Value.ref x : Value), [Value.str "__class__" t])) (by first | rfl | (simp only [slotArgs]; rfl)) ?_)
  refine wpAny_bind (wpAny_pure (wpAny_bind (L0.at (wpAny_bind (L3.at ?_)))))
  show wpAny _ _ (holding [Value.builtin "object.__class__"] (call (.builtin "getset_descriptor.__get__") [.builtin "object.__class__", .ref x, .ref D]) >>= ret) _ _ _
  refine wpAny_bind (wpAny_holding (wpAny_call (class_get (s := ⟨hp, g, d, t + 1, os⟩) (ox := ox) (od := od) X I hm ?_)))
  refine wpAny_pure ?_
  show wpAny _ _ (handedOut (.ref D)) _ _ _
  rw [handedOut_of (v := .ref D) rfl]
  first
    | exact wpAny_pure (wpAny_pure h)
    | exact wpAny_pure h
    | exact wpAny_pure (wpAny_bind (wpAny_pure (wpAny_pure h)))
theorem kitx_err {od : Option Obj} (T : ExcC K D) : KitX K (.ref x) (.ref D) (fun h => InstAt h x ox D od) where
  ty := fun _ _ _ I => I.type
  it := fun _ _ X _ => by
    obtain ⟨cd, hc, _⟩ := any_some T.hd
    unfold clsIn at hc
    split at hc
    · rename_i ho
      intro A' Q' E' s' k q
      unfold isType loadHead
      exact wpAny_bind (wpAny_loadPart (k _ _ (X _ _ ho)) (wpAny_pure q))
    · cases hc
  ne := fun h tp dd its n sl X htp => (handS_kitx_exc (x := x) (ox := ox) T.hg T.hk T.hs T.hd T.ha T.hn T.ht T.hm).ne h tp dd its n sl X htp
  ca := fun X I k => get_cls T.hg T.hk T.hs T.hd T.ha T.hn T.ht T.hm X I k
end
/-! ### rules -/
section
variable {X : Cx} {Z : Dx} {e : Expr} {i : Nat} {p p2 pos : Pos}
/-- the suite's context; the error stands at a, its object is oe -/
abbrev SuX (X : Cx) (a : Addr) (oe : Obj) (pn : List (Addr × Obj)) : Cx := X.suite a ((a, oe) :: pn)
/-- the slot bears just that value -/
@[simp] def hasPin (Γ : SS) (i : Nat) (a : Addr) : Prop := Γ[i]? = some (.pin (.ref a))
/-- isinstance(e, C), e the caught error, of the class by name -/
@[simp] def dIsE (i : Nat) (a : Addr) (b : Bool) : TD := fun Γ P _ => hasPin Γ i a ∧ P (.bool b) Γ
theorem de_isE {a D C dd : Addr} {b : Bool} {oe : Obj} {pn : List (Addr × Obj)} {y : Str} {vs0 : Array Value} {fs : List (Str × V)} (T : ExcC X.K D) (hz : Zc (.ref D) (some dd) oe) (hf : oe.data = .fields vs0) (hk : PySem.W.kitOne X.K (.ref D) (.ref C) = some b)
    (hE : Z.En.G dd = some (.xd fs))
    (he : PE (SuX X a oe pn) e (tVar i)) (hg : Gl (SuX X a oe pn) "isinstance") (hm : X.mg "isinstance" = none) (hgC : Gl (SuX X a oe pn) y) (hmC : X.mg y = some (.ref C)) (hdb : (y == ("__debug__" : Str)) = false := by decide)
    (hs1 : starEach [e, .Name y p2] (SuX X a oe pn).env = (false, eval e (SuX X a oe pn).env) :: starEach [.Name y p2] (SuX X a oe pn).env := by rfl) (hs2 : starEach [.Name y p2] (SuX X a oe pn).env = (false, eval (.Name y p2) (SuX X a oe pn).env) :: starEach [] (SuX X a oe pn).env := by rfl)
    (hpl : (backTo pos (starEach [.Name y p2] (SuX X a oe pn).env)).any (·.1) = false := by rfl) : DE (SuX X a oe pn) Z (.Call (.Name "isinstance" p) [e, .Name y p2] [] pos) (dIsE i a b) := by
  have cr : CallR (SuX X a oe pn) (.builtin "isinstance") (fun xs H Q => xs = [.ref a, .ref C] ∧ H dd = some (.xd fs) ∧ Q (.bl b) H) := by
    intro pins s σ H xs us Q I r h
    obtain ⟨ex, hd, q⟩ := h
    subst ex
    obtain ⟨u1, u2, rfl, r1, r2⟩ := vals2 r
    cases r1
    cases r2
    obtain ⟨hget, _⟩ := I.pin (a, oe) (List.mem_append.mpr (.inl List.mem_cons_self))
    obtain ⟨mA, ⟨od, es, ep, hod, _⟩, _⟩ := (show ObjOk X.prog X.w H s.heap dd (.xd fs) from I.hok dd _ hd)
    have J : PySem.W.InstAt s.heap a oe D (some od) := ⟨hget, hz.1, by unfold PySem.W.notCls; rw [hf] <;> rfl, by rw [hz.2]; exact hod⟩
    exact PySem.W.kia_one (kitx_err T) I.kIn J hk (fun z => nomatch z) fun tk => ⟨.bl b, H, I.kept (t' := tk) fun _ _ z => z, rfl, q⟩
  refine ⟨PE.imp (pe_callB cr hg hm PyProof.Rows.boot_isinstance (pa_cons he (pa_cons (pe_glob (v := .ref C) hgC hmC rfl hdb) pa_nil hs2) hs1) (by decide) (by decide) hs1 hpl) fun σ H Q hh => ?_⟩
  obtain ⟨Γ, G, P, E, r, ⟨hp, t⟩, k, x⟩ := hh
  obtain ⟨v, e1, e2⟩ := r.slot i _ hp
  have e2' : v = some (V.ref a) := e2
  subst e2'
  exact ⟨.ref a, e1, rfl, r.sub _ _ (r.gr.ext _ _ hE), k _ Γ G _ H t r .refl (.bl b)⟩
/-- e.what, e the caught error -/
@[simp] def dWhat (i : Nat) (a : Addr) (z : PD) : TD := fun Γ P _ => hasPin Γ i a ∧ P z Γ
theorem de_what {a C dd : Addr} {oe : Obj} {pn : List (Addr × Obj)} {z : PD} {v : V} (T : XfC X.K C) (hno : PySem.W.findIn X.K (.ref C) "what" = some none) (hz : Zc (.ref C) (some dd) oe) (hf : ∃ vs, oe.data = .fields vs)
    (hE : Z.En.G dd = some (.xd [(("what" : Str), v)])) (hv : Rp X.K Z.En.G v z) (he : PE (SuX X a oe pn) e (tVar i)) (hb : attributeBase e "what" X.env (eval e X.env) = eval e X.env := by rfl) : DE (SuX X a oe pn) Z (.Attribute e "what" pos) (dWhat i a z) := by
  refine ⟨PE.imp (pe_xf T hno hz hf he hb) fun σ H Q hh => ?_⟩
  obtain ⟨Γ, G, P, E, r, ⟨hp, t⟩, k, x⟩ := hh
  obtain ⟨u, e1, e2⟩ := r.slot i _ hp
  have e2' : u = some (V.ref a) := e2
  subst e2'
  exact ⟨.ref a, e1, rfl, rfl, dd, _, v, rfl, r.sub _ _ (r.gr.ext _ _ hE), by simp [List.lookup], k z Γ G v H t r .refl (hv.up r.gr.ext)⟩
@[simp] def itS : PD → Option (List Str)
  | .list xs => strsD xs
  | .tuple xs => strsD xs
  | _ => none
/-- " ".join(..) of a list or a tuple of texts -/
@[simp] def dJoin (to te : TD) : TD := fun Γ P E => to Γ (fun o Γ1 => match o with
  | .str a => te Γ1 (fun d Γ2 => match itS d with
    | some ys => PyData.strOk (Txt.join a ys) = true ∧ (Txt.join a ys).length ≤ sizeLine ∧ (ys.map (·.length)).sum + ys.length * a.length ≤ 16777216 ∧ P (.str (Txt.join a ys)) Γ2
    | none => False) E
  | _ => False) E
theorem de_join {o : Expr} {to te : TD} {apos : Pos} (ho : DE X Z o to) (he : DE X Z e te) (hs : starEach [e] X.env = [(false, eval e X.env)] := by rfl) (hbase : attributeBase o "join" X.env (eval o X.env) = eval o X.env := by rfl) (hline : (apos.endLine == pos.line) = true := by rfl) :
    DE X Z (.Call (.Attribute o "join" apos) [e] [] pos) (dJoin to te) := by
  refine ⟨PE.imp (pe_join ho.pe he.pe hs hbase hline) fun σ H Q hh => ?_⟩
  obtain ⟨Γ, G, P, E, r, t, k, x⟩ := hh
  refine ⟨Γ, G, _, E, r, t, fun d Γ1 G1 v1 H1 q1 r1 s1 p1 => ?_, x⟩
  cases d with
  | str a =>
    obtain ⟨ev, _, _⟩ := p1.str_inv
    refine ⟨⟨a, ev⟩, Γ1, G1, _, E, r1, q1, fun d2 Γ2 G2 v2 H2 q2 r2 s2 p2 => ?_, x.up s1⟩
    split at q2
    · rename_i ys ey
      cases p2 with
      | @lst b vs ds h t hz =>
        rw [strsD_of (show strsD ds = some ys from ey)] at t
        rw [rps_strs_inv t] at h
        exact ⟨a, b, ys, ev, rfl, .inl (sqL_of h r2.sub), q2.2.2.1, k _ Γ2 G2 _ H2 q2.2.2.2 r2 (s1.trans s2) (.str _ q2.1 q2.2.1)⟩
      | @tup b vs ds h t hz =>
        rw [strsD_of (show strsD ds = some ys from ey)] at t
        rw [rps_strs_inv t] at h
        exact ⟨a, b, ys, ev, rfl, .inr (sqT_mono r2.sub h), q2.2.2.1, k _ Γ2 G2 _ H2 q2.2.2.2 r2 (s1.trans s2) (.str _ q2.1 q2.2.1)⟩
      | _ => cases ey
    · exact q2.elim
  | _ => exact q1.elim
end
/-! ### a comprehension there -/
structure DIH (X : Cx) (Z : Dx) (tg e : Expr) (t : TLd) : Prop where
  pi : PIH X tg e (lfI X Z t)
@[simp] def iSqL (t : TD) : TLd := fun Γ P E => t Γ (fun d Γ1 => match d with
  | .list xs => P xs Γ1
  | _ => False) E
section
variable {X : Cx} {Z : Dx} {tg e : Expr} {te : TD} {es : List Expr} {gs : List Nat} {pos : Pos}
theorem PIH.imp {tg e : Expr} {t t' : TI} (h : PIH X tg e t) (i : ∀ σ H R, t' σ H R → t σ H R) : PIH X tg e t' := ⟨fun pins s σ H R I hw => h.run pins s σ H R I (i σ H R hw)⟩
theorem dih_list (he : DE X Z e te) : DIH X Z tg e (iSqL te) := by
  refine ⟨PIH.imp (pi_listH he.pe) fun σ H R hh => ?_⟩
  obtain ⟨Γ, G, P, E, r, t, k, x⟩ := hh
  refine ⟨Γ, G, _, E, r, t, fun d Γ1 G1 v1 H1 q1 r1 s1 p1 => ?_, x⟩
  cases p1 with
  | @lst a vs ds h t hz => exact ⟨a, rfl, ⟨vs, sqL_of h r1.sub⟩, k _ Γ1 G1 _ H1 q1 r1 s1 (irel_list h t) hz⟩
  | _ => exact q1.elim
theorem dg_tupH {n k0 : Nat} {t : TGsd} (hc : HotC X) (h : DGs X Z es gs t) (hn : (assignEach es X.env).length = n := by rfl) (hst : (assignEach es X.env).findIdx? (·.1) = none := by rfl) : DG X Z (.Tuple es k0 pos) gs (gTp n t) := by
  refine ⟨PG.imp (pg_tupH hc h.pg hn hst) fun v σ H Q hh => ?_⟩
  obtain ⟨Γ, G, P, x, r, p, t, k⟩ := hh
  unfold gTp at t
  split at t
  · rename_i xs
    obtain ⟨a, vs, ev, hq, hp, _⟩ := p.tup_inv
    exact ⟨a, vs, ev, sqT_mono r.sub hq, by rw [hp.length]; exact t.1, Γ, G, P, xs, r, hp, t.2, k⟩
  · exact t.elim
theorem do_lcH {ti : TLd} {g : TGd} {tt : TTd} {elt iter : Expr} {ifs : List Expr} {scope : Scope} {own : List (Str × Nat)} {p0 : Addr × Obj} (hot : Hot1 X.A p0) (hp0 : p0 ∈ X.pn) (hN : X.N.Nodup) (hi : DIH X Z tg iter ti) (ok : BlkOk X.N X.env.scope scope own) (hgs : ∀ i ∈ gs, i ∈ own.map (·.2))
    (hg : ∀ (s : Shared) (H : Hp) (C : Addr) (cl : List (Str × Addr)) (fp : List Addr), DG (blkH X s H scope (compEnvC scope cl C X.env) fp p0) Z.quiet tg gs g) (ht : ∀ (s : Shared) (H : Hp) (C : Addr) (cl : List (Str × Addr)) (fp : List Addr), DTs (blkH X s H scope (compEnvC scope cl C X.env) fp p0) Z.quiet ifs tt)
    (he : ∀ (s : Shared) (H : Hp) (C : Addr) (cl : List (Str × Addr)) (fp : List Addr), DE (blkH X s H scope (compEnvC scope cl C X.env) fp p0) Z.quiet elt te) (hs : ∀ x, foldedSetIterable iter X.env x = pure x := by intro _; rfl) :
    DO X Z (.ListComp elt [⟨tg, iter, ifs, 0⟩] scope pos) (oLc ti g tt te (own.map (·.2))) :=
  ⟨PE.imp (pe_lcH (g := lfG X Z.quiet gs g) (tt := lfT X Z.quiet tt) (te := lfE X Z.quiet te) hot hp0 hN hi.pi ok (fun s H C cl fp => (hg s H C cl fp).pg) (fun s H C cl fp => (ht s H C cl fp).pts) (fun s H C cl fp => (he s H C cl fp).pe) hs) fun σ H Q hh => lc_imp rfl hgs hh⟩
end
end DL

set_option Elab.async false
set_option linter.all false
set_option maxRecDepth 100000
set_option maxHeartbeats 4000000
/-! The data layer, part 16: a lambda without parameters handed to a def that calls it within a try. -/
namespace DL
open PySem PySem.Spec PyProof.Rows L2 LamX

def Kept (H H1 : Hp) : Prop := ∀ b, H1 b = none → H b = none
section
variable {X : Cx} {pins : List (Addr × Obj)} {σ : L2.St} {H HZ : Hp} {s s1 : Shared}
/-- the lambda made; nothing that was known is gone -/
theorem lam_makeP {T : List (Addr × Str)} {c P : Addr} {params : Arguments} {body : Expr} {scope : Scope} {pos : Pos} {E : Value → Shared → Prop} {Q : Value → Shared → Prop} (I : Inv X pins σ H s) (TB : TabB X.base X.mg c P) (hcode : X.env.code = .ref c)
    (hm : (P, X.env.qual ++ "<lambda>") ∈ T) (hu : ∀ p ∈ T, p.1 = P → p.2 = X.env.qual ++ "<lambda>") (hT : Tabs T H) (hdef : defaultsOf params X.env = ([], [])) (hfree : ∀ y ∈ scope.names, y.2 = .free → ∃ c, X.env.cells.lookup y.1 = some c)
    (h : ∀ (f c' : Addr) (pm ctv : Value) (H1 : Hp) (s' : Shared), Inv X pins σ H1 s' → ExtN H H1 → Kept H H1 → Tabs T H1 →
      s'.heap.get? f = some (PySem.W.kla_obj "<lambda>" (X.env.qual ++ "<lambda>") params body scope (cloFrom X.env.cells scope.names []) pm c' ctv) → H1 f = none → f ∉ frs X.stack → H1 c' = some (CodeO c' (X.env.qual ++ "<lambda>")) → Q (.ref f) s') :
    wpAny (model X.prog X.w) X.A (eval (.Lambda params body scope pos) X.env) Q E s := by
  obtain ⟨ps, hP, ht, ha⟩ := hT _ hm
  have bP : s.heap.BuiltinsAt X.mg P := TB.bm.keeps I.bk
  have hP' : s.heap.get? P = some { cls := .none, data := .fields ps } := I.hok P _ hP
  have nofr : ∀ f, s.heap.objs.size ≤ f → f ∉ frs X.stack := fun f hf z => (List.mem_cons.mp (I.stkSub _ z)).elim (fun e => absurd (Nat.lt_of_lt_of_le (e ▸ I.lt) hf) (Nat.lt_irrefl _)) fun e => I.nofs hf e
  refine PySem.W.kla_eval hdef ?_
  cases hc : codeAmong pos ps.toList with
  | some cv =>
    obtain ⟨c', e, hco⟩ := ha pos cv hc
    subst e
    refine PySem.W.kla_makeFunctionHit (mg := X.mg) (c := c) (P := P) (ps := ps) (closure_ok hfree) I.ok.glob (I.mod.glob.keeps I.bk) hcode (TB.code.keeps I.bk) hP' ht hc bP fun ctv h' tk hx hsz => ?_
    exact h h'.objs.size c' ((X.mg "__name__").getD .none) ctv H _ (I.kept (t' := tk) fun b o e => Heap.get?_push_of_some _ (hx b o e)) (ExtN.refl H) (fun _ z => z) hT (Heap.get?_push_size _ rfl) (I.hok.fresh hsz) (nofr _ hsz) hco
  | none =>
    refine PySem.W.kla_makeFunction (mg := X.mg) (c := c) (P := P) (ps := ps) (closure_ok hfree) I.ok.glob (I.mod.glob.keeps I.bk) hcode (TB.code.keeps I.bk) hP' ht hc TB.gP bP fun c' ctv h' tk hx hge hlt hrec htb => ?_
    obtain ⟨c2, oc, vs, t, e2, hoc, hd, hv⟩ := hrec
    cases e2
    have hsz : s.heap.objs.size ≤ h'.objs.size := Nat.le_trans hge (Nat.le_of_lt hlt)
    have nC : H c' = none := I.hok.fresh hge
    have I1 := inv_table (t' := tk) (more := #[rawInt pos.line, rawInt pos.col, .ref c']) (h' := h'.push (PySem.W.kla_obj "<lambda>" (X.env.qual ++ "<lambda>") params body scope (cloFrom X.env.cells scope.names []) ((X.mg "__name__").getD .none) c' ctv)) I hP
      (fun b o hb e => Heap.get?_push_of_some _ (hx b o hb e)) (Heap.get?_push_of_some _ htb) hge ⟨oc, vs, t, Heap.get?_push_of_some _ hoc, hd, hv⟩
    have hE : ExtN H (upd (upd H P (.tbl (ps ++ #[rawInt pos.line, rawInt pos.col, .ref c']))) c' (CodeO c' (X.env.qual ++ "<lambda>"))) := fun b o e n => by
      rw [upd_ne (ne_of_none e nC), upd_ne (fun z => n ps (Option.some.inj (e.symm.trans (by rw [z]; exact hP))))]
      exact e
    have hK : Kept H (upd (upd H P (.tbl (ps ++ #[rawInt pos.line, rawInt pos.col, .ref c']))) c' (CodeO c' (X.env.qual ++ "<lambda>"))) := fun b z => by
      by_cases h1 : b = c'
      · rw [h1]; exact nC
      · rw [upd_ne h1] at z
        by_cases h2 : b = P
        · rw [h2, upd_same] at z; cases z
        · rw [upd_ne h2] at z; exact z
    have eL : (ps ++ #[rawInt pos.line, rawInt pos.col, .ref c']).toList = ps.toList ++ [rawInt pos.line, rawInt pos.col, .ref c'] := by simp
    have n1 : h'.objs.size ≠ c' := Nat.ne_of_gt hlt
    have n2 : h'.objs.size ≠ P := Nat.ne_of_gt (Nat.lt_of_lt_of_le (Heap.lt_size hP') hsz)
    refine h h'.objs.size c' ((X.mg "__name__").getD .none) ctv _ _ I1 hE hK (fun p hp => ?_) (Heap.get?_push_size _ rfl) (by rw [upd_ne n1, upd_ne n2]; exact I.hok.fresh hsz) (nofr _ hsz) upd_same
    by_cases hb : p.1 = P
    · rw [hu p hp hb, hb]
      refine ⟨_, by rw [upd_ne (ne_of_none hP nC), upd_same], by rw [eL]; exact PySem.TriplesOk_snoc _ _ _ _ ht, fun p' cv hcv => ?_⟩
      rw [eL] at hcv
      rcases among_app _ ht hcv with z | z
      · obtain ⟨c0, e1, e2⟩ := ha p' cv z
        exact ⟨c0, e1, hE _ _ e2 codeO_ne⟩
      · exact ⟨c', z, upd_same⟩
    · obtain ⟨ps', a1, a2, a3⟩ := hT p hp
      refine ⟨ps', by rw [upd_ne (ne_of_none a1 nC), upd_ne hb]; exact a1, a2, fun p' cv hcv => ?_⟩
      obtain ⟨c0, e1, e2⟩ := a3 p' cv hcv
      exact ⟨c0, e1, hE _ _ e2 codeO_ne⟩
end
/-- the context of the lambda's body -/
abbrev lamN (X : Cx) (A : Around) (outer : List Env) (s : Shared) (H : Hp) (E : XK) (scope : Scope) (f c' : Addr) : Cx :=
  (lamCx X A outer s H E scope f c').wish fun e s' => wpAny (model X.prog X.w) (A.deeper (lamEnv X scope s.heap.objs.size f c')) (leaving (lamEnv X scope s.heap.objs.size f c') e) (fun _ s'' => L2N.CX X.prog X.w outer H s E e s'') (fun e' s'' => L2N.CX X.prog X.w outer H s E e' s'') s'
theorem inv_wish {X : Cx} {E : Value → Shared → Prop} {pins : List (Addr × Obj)} {σ : L2.St} {H : Hp} {s : Shared} (I : Inv X pins σ H s) : Inv (X.wish E) pins σ H s := ⟨I.ok.wish E, I.os, I.bare, I.base, I.loc, I.cell, I.free, I.freeC, I.pin, I.hok, I.len⟩
abbrev hCx (X : Cx) (Ng : List Str) (x : Str) (sg : Scope) (g : Addr) (cdg : Value) (s : Shared) (H : Hp) : Cx := cxOf C8.CX0 X.prog X.w X.K X.mg X.base Ng x sg g cdg X.A X.stack s H C8.E0
section
variable {X : Cx} {pins : List (Addr × Obj)} {σ : L2.St} {H : Hp} {s : Shared}
/-- x(), in the def that got the lambda -/
theorem pe_actN {Ng : List Str} {qg : Str} {sg : Scope} {g f c' : Addr} {cdg pm ctv : Value} {params : Arguments} {body : Expr} {scope : Scope} {k : Nat} {a : Str} {pn : List (Addr × Obj)} {xe : Value → Shared → Prop} {W : WX} {tb : XK → TE} {p1 p2 : Pos}
    (I : Inv X pins σ H s) (L : LamS X.env.scope scope) (hf : s.heap.get? f = some (PySem.W.kla_obj "<lambda>" (X.env.qual ++ "<lambda>") params body scope (cloFrom X.env.cells scope.names []) pm c' ctv)) (hfn : H f = none) (hfr : f ∉ frs X.stack)
    (hbind : bindArgs (PySem.W.kla_fn "<lambda>" (X.env.qual ++ "<lambda>") params body scope (cloFrom X.env.cells scope.names []) pm (.ref c') ctv) ⟨[], []⟩ = pure [])
    (tk : L2N.Takes ((hCx X Ng qg sg g cdg s H).tr pn xe) W) (hr : Room (k + 1) (X.A.deeper (envOfC qg sg s.heap.objs.size g cdg)))
    (hbody : ∀ (E : XK) (A : Around) (outer : List Env) (s : Shared) (H : Hp), Room k (A.deeper (lamEnv X scope s.heap.objs.size f c')) → PE (lamN X A outer s H E scope f c') body (tb E))
    (hN : Ng[0]? = some a) (hv : Vis sg a) (hd : (a == ("__debug__" : Str)) = false := by decide) (hcd : (a == ("__classdict__" : Str)) = false := by decide) :
    PE ((hCx X Ng qg sg g cdg s H).tr pn xe) (.Call (.Name a p1) [] [] p2) (fun σZ HZ Q => σZ[0]? = some (some (.ref f)) ∧ HZ c' = some (CodeO c' (X.env.qual ++ "<lambda>")) ∧ tb (WE W σZ) σ HZ Q) := by
  refine ⟨fun pinsZ sZ σZ HZ Q IZ h => ?_⟩
  obtain ⟨hs, hc, ht⟩ := h
  refine wpAny_Call_Name_kw (thn ((pe_var (pos := p1) (i := 0) hN hv hd hcd).run pinsZ sZ σZ HZ (fun v H1 => v = .ref f ∧ H1 = HZ) IZ ⟨.ref f, hs, rfl, rfl⟩) fun u s1 ⟨v, H1, I1, r1, ev, eH⟩ => ?_)
  subst ev
  rw [eH] at I1
  obtain rfl : u = Value.ref f := r1
  have of1 : s1.heap.get? f = some (PySem.W.kla_obj "<lambda>" (X.env.qual ++ "<lambda>") params body scope (cloFrom X.env.cells scope.names []) pm c' ctv) := I1.base.keep f _ hf hfn hfr (fun z => nomatch (show f ∈ ([] : List Addr) from z))
  refine PySem.W.callWith_F0 ⟨_, _, _, _, of1⟩ ?_
  have un : Un (frs X.stack) [] H HZ s.heap s1.heap := I1.base
  obtain ⟨⟨oc, vs, t, hoc, hdc, hvc⟩, _, _⟩ := I1.hok c' _ hc
  have rc : codeAny (model X.prog X.w) (X.A.deeper (envOfC qg sg s.heap.objs.size g cdg)) (.call (.ref f) ⟨[], []⟩) (CR (L2N.CX X.prog X.w) (envOfC qg sg s.heap.objs.size g cdg :: X.stack) X.prog X.w HZ s1 Q (WE W σZ)) s1 := by
    refine PySem.W.kla_callFunE hr.depth of1 rfl L.co L.gen rfl ⟨c', oc, vs, t, rfl, hoc, hdc, hvc⟩ ?_
    rw [hbind]
    refine wpAny_pure (wpAny_newFunctionEnv (fun y hy => (L.own y hy).2) (fun y hy => absurd hy (by simp)) (fun h₁ hns hsb => ⟨I1.nolimit.fresh _ hsb, ?_⟩) L.kind)
    show codeAny _ _ (.expr body (lamEnv X scope s1.heap.objs.size f c')) _ _
    have kp : ∀ b o, s1.heap.get? b = some o → h₁.get? b = some o := fun b o e => hsb.extBut b o (Nat.ne_of_lt (Heap.lt_size e)) (Heap.get?_push_of_some _ e)
    have J0 : Inv (lamCx X (X.A.deeper (envOfC qg sg s.heap.objs.size g cdg)) (envOfC qg sg s.heap.objs.size g cdg :: X.stack) s1 HZ (WE W σZ) scope f c') [] σ HZ { s1 with heap := h₁, toks := s1.toks + ([] : List (Str × Value)).length } :=
      lam_start2 I L I1.env0 hr.hd un hns kp
    refine PySem.W.kla_codeExpr (wpAny_mono ((hbody (WE W σZ) _ _ s1 HZ (hr.deeper _)).run [] _ _ HZ Q (inv_wish J0) ht) (fun v s' hq => ?_) fun e s' hq => hq)
    obtain ⟨w', H', J', rv, q⟩ := hq
    exact ⟨w', H', J'.os, J'.bare, J'.base, J'.hok, rv, q⟩
  refine wpAny_call (codeAny_mono rc fun r s' hq => ?_)
  cases r with
  | error e => exact L2N.passAt tk σZ pinsZ HZ s1 e s' I1 hq
  | ok fl =>
    cases fl with
    | ret u => exact I1.after hq
    | next => exact False.elim hq
    | brk => exact False.elim hq
    | cont => exact False.elim hq
end
/-- the def that calls what it got -/
def GivesN (X : Cx) (Ng : List Str) (x : Str) (sg : Scope) (g : Addr) (cdg : Value) (bg : List Stmt) (a : Str) (q : Str) (TT : (XK → Hp → VK → Prop) → Hp → VK → Prop) : Prop :=
  ∀ (f c' : Addr) (s : Shared) (H : Hp) (Q : VK) (tl : XK → Hp → VK → Prop),
    (∀ (W : WX) (pn : List (Addr × Obj)) (xe : Value → Shared → Prop) (p1 p2 : Pos), L2N.Takes ((hCx X Ng x sg g cdg s H).tr pn xe) W →
      PE ((hCx X Ng x sg g cdg s H).tr pn xe) (.Call (.Name a p1) [] [] p2) (fun σZ HZ Q => σZ[0]? = some (some (.ref f)) ∧ HZ c' = some (CodeO c' q) ∧ tl (WE W σZ) HZ Q)) →
    H c' = some (CodeO c' q) → TT tl H Q →
    ∃ t, PSs (hCx X Ng x sg g cdg s H).nox bg t ∧ t { nx := fun _ H' => Q .non H', rt := Q } (L2.start Ng [.ref f]) H
def tLamN (T : List (Addr × Str)) (TT : (XK → Hp → VK → Prop) → Hp → VK → Prop) (t : XK → TE) : TE := fun σ H Q => Tabs T H ∧ ∀ H1, ExtN H H1 → Kept H H1 → Tabs T H1 → TT (fun E H' Q' => t E σ H' Q') H1 Q
section
variable {X : Cx}
theorem pe_lamcallN {T : List (Addr × Str)} {TT : (XK → Hp → VK → Prop) → Hp → VK → Prop} {x a : Str} {g c P : Addr} {k : Nat} {pg : Arguments} {bg : List Stmt} {sg : Scope} {dV kV doc pm cdv ct oc : Value} {an od : Option Addr} {osl : Array (Option Value)} {Ng : List Str}
    {params : Arguments} {body : Expr} {scope : Scope} {t : XK → TE} {p lpos pos : Pos} (hg : Gl X x) (hm : X.mg x = some (.ref g)) (hk : PySem.W.keepIn X.K (.ref g) = true)
    (lk : X.K.lookup g = some ⟨oc, od, .func (PySem.W.fnOf x x pg bg sg dV kV doc pm an cdv ct), osl⟩) (hcg : PySem.W.codeIn X.K cdv x = true) (hb : L2.Binds X.K (PySem.W.fnOf x x pg bg sg dV kV doc pm an cdv ct) [a] []) (Sg : FnScope Ng [a] sg) (hNg : Ng[0]? = some a) (hva : Vis sg a)
    (hG : GivesN X Ng x sg g cdv bg a (X.env.qual ++ "<lambda>") TT)
    (TB : TabB X.base X.mg c P) (hcode : X.env.code = .ref c) (hmT : (P, X.env.qual ++ "<lambda>") ∈ T) (hu : ∀ p ∈ T, p.1 = P → p.2 = X.env.qual ++ "<lambda>") (hr : Room (k + 2) X.A) (L : LamS X.env.scope scope) (hdef : defaultsOf params X.env = ([], []))
    (hbind : ∀ (q : Str) (cl : List (Str × Addr)) (pm cv ctv : Value), bindArgs (PySem.W.kla_fn "<lambda>" q params body scope cl pm cv ctv) ⟨[], []⟩ = pure [])
    (hbody : ∀ (E : XK) (A : Around) (outer : List Env) (s : Shared) (H : Hp) (f c' : Addr), Room k (A.deeper (lamEnv X scope s.heap.objs.size f c')) → PE (lamN X A outer s H E scope f c') body (t E))
    (hdb : (x == ("__debug__" : Str)) = false := by decide) (hd : (a == ("__debug__" : Str)) = false := by decide) (hcd : (a == ("__classdict__" : Str)) = false := by decide) :
    PE X (.Call (.Name x p) [.Lambda params body scope lpos] [] pos) (tLamN T TT t) := by
  refine ⟨fun pins s σ H Q I h => ?_⟩
  obtain ⟨hT, h⟩ := h
  refine wpAny_Call_Name_kw (ld_glob I hg hm ?_ hdb)
  refine PySem.W.callWith_K (h₀ := X.base) I.ok.mod.kin hk ?_ (by rfl) (by rfl)
  show wpAny _ _ (spliced ((false, eval (.Lambda params body scope lpos) X.env) :: backTo pos (starEach [] X.env))) _ _ s
  refine Calls.spliced_cons (lam_makeP I TB hcode hmT hu hT hdef (L.has I.ok) fun f c' pm' ctv H1 s' I1 eN eK T1 hf hfn hfr hco => Calls.spliced_nil ⟨I1.kIn, ?_⟩)
  have rc : codeAny (model X.prog X.w) X.A (.call (.ref g) ⟨[.ref f], []⟩) (CR C8.CX0 X.stack X.prog X.w H1 s' Q C8.E0) s' := by
    refine run_ofS (N := Ng) (ps := [a]) (us := [.ref f]) (vs := [.ref f]) lk hcg Sg hr I1.env0 (hb s' [.ref f] I1.kIn rfl) (.cons rfl .nil) rfl fun hr' => ?_
    obtain ⟨t', ht', hq'⟩ := hG f c' s' H1 Q (fun E H' Q' => t E σ H' Q') (fun W pn xe p1 p2 tk => pe_actN I1 L hf hfn hfr (hbind _ _ _ _ _) tk hr' (fun E A outer s H hr2 => hbody E A outer s H f c' hr2) hNg hva hd hcd) hco (h H1 eN eK T1)
    exact ⟨t', ht'.nox, hq'⟩
  refine wpAny_call (codeAny_mono rc fun r s2 hq => ?_)
  cases r with
  | error e => exact (show False from hq).elim
  | ok fl =>
    cases fl with
    | ret u => exact I1.after hq
    | next => exact False.elim hq
    | brk => exact False.elim hq
    | cont => exact False.elim hq
end
end DL

set_option Elab.async false
set_option linter.all false
set_option maxRecDepth 100000
set_option maxHeartbeats 4000000
/-! The data layer, part 17: f(lambda: e), f a def that tries it and tells what an error of the program's own keeps. -/
namespace DL
open PySem PySem.Spec PyProof.Rows L2 LamX

section
variable {K : PySem.W.Frag} {En : Ent} {Γ : SS} {G : Hp} {σ : L2.St} {H H1 : Hp}
theorem Rl.ext (r : Rl K En Γ G σ H) (e : ExtN H H1) (k : Kept H H1) (t : Tabs En.T H1) : Rl K En Γ G σ H1 ∧ Adv Γ σ G H Γ σ G H1 := by
  have g : Grow no1 G H G H1 := ⟨fun b u z => e b u (r.sub b u z) (fun ps w => r.ntb b ps (by rw [z, w])), Same.refl G, fun _ z _ => z, fun p o z _ n => e p o z n, fun p n z => n (k p z), r.ntb⟩
  exact ⟨r.grow g t, .grow g⟩
end
abbrev fastEnd (k : PD → Prop) : EndsD := ⟨fun _ => False, fun r _ => match r with
  | .d z => k z
  | .o _ => False, fun _ => False, fun _ => False, no⟩
/-- what the suite makes of an error: the slots (n of them) bear nothing but the error, in slot i -/
def hRes (errs : List Str) (tsd : Exn → Addr → TSd) (n i : Nat) (x : Exn) (k : PD → Prop) : Prop := x.cls ∈ errs ∧ ∀ a, tsd x a (fastEnd k) ((List.replicate n SC.u).set i (.pin (.ref a)))
def hEch (K : PySem.W.Frag) (mg : Str → Option Value) (T : List (Addr × Str)) (errs : List Str) (tsd : Exn → Addr → TSd) (n i : Nat) (Q : VK) : XK := fun cls d H => ∃ (x : Exn) (C dd : Addr) (v : V) (G : Hp) (kk : PD → Prop), mg x.cls = some (.ref C) ∧ cls = .ref C ∧ d = some dd ∧ G dd = some (.xd [(("what" : Str), v)]) ∧ Rp K G v x.what ∧ Same G H ∧ (∀ a ps, G a ≠ some (.tbl ps)) ∧ Tabs T H ∧
  hRes errs tsd n i x kk ∧ ∀ (z : PD) (G' : Hp) (v' : V) (H' : Hp), kk z → Grow no1 G H G' H' → Tabs T H' → Rp K G' v' z → Q v' H'
def hQ (Q : VK) : VK := fun v H => ∀ q, H q = none → Q (.ref q) (upd H q (.tup [.str "told", v]))
def hTT (K : PySem.W.Frag) (mg : Str → Option Value) (T : List (Addr × Str)) (errs : List Str) (tsd : Exn → Addr → TSd) (n i : Nat) : (XK → Hp → VK → Prop) → Hp → VK → Prop := fun tl H Q => ∀ E : XK, (∀ cls d H', hEch K mg T errs tsd n i Q cls d H' → E cls d H') → tl E H (hQ Q)
section
variable {X : Cx}
/-- the suite, at each error -/
def SuOk (X : Cx) (T : List (Addr × Str)) (errs : List Str) (tsd : Exn → Addr → TSd) (Ng : List Str) (x : Str) (sg : Scope) (g : Addr) (cdg : Value) (suite : List Stmt) : Prop :=
  ∀ (ex : Exn) (C dd a : Addr) (v : V) (oe : Obj) (pn : List (Addr × Obj)) (G0 H0 : Hp) (s : Shared) (H : Hp), ex.cls ∈ errs → X.mg ex.cls = some (.ref C) → L2N.Zn (.ref C) (some dd) oe → (∃ vs, oe.data = .fields vs) → G0 dd = some (.xd [(("what" : Str), v)]) → Rp X.K G0 v ex.what →
    DSs (SuX (hCx X Ng x sg g cdg s H).nox a oe pn) ⟨⟨G0, H0, T, fun _ => none⟩, fun _ _ _ _ => False⟩ suite (tsd ex a)
theorem heard_gives {T : List (Addr × Str)} {errs : List Str} {tsd : Exn → Addr → TSd} {Ng : List Str} {x a e n q : Str} {sg : Scope} {g CR0 : Addr} {cdg : Value} {i j kt : Nat} {b0 : Stmt} {suite : List Stmt} {p1 p2 p3 p4 p6 p8 pt pc : Pos} (h0 : Ng[0]? = some a) (hN : Ng.Nodup) (hi : Ng[i]? = some n) (hin : sg.names.lookup n = some .local)
    (hge : sg.names.lookup e = some .globalImplicit) (hme : X.mg e = some (.ref CR0)) (hde : (e == ("__debug__" : Str)) = false) (hex : ∀ c ∈ errs, ∀ C, X.mg c = some (.ref C) → PySem.W.exmOne X.K (.ref C) (.ref CR0) = some true)
    (hsu : SuOk X T errs tsd Ng x sg g cdg (b0 :: suite)) :
    GivesN X Ng x sg g cdg [.Try [.Return (some (.Tuple [.Constant (.str "told") j pc, .Call (.Name a p1) [] [] p2] kt pt)) p3] [.ExceptHandler (some (.Name e p4)) (some n) (b0 :: suite) p6] [] [] p8] a q (hTT X.K X.mg T errs tsd Ng.length i) := by
  intro f c' s H Q tl act hc h
  have hgl : Gl (hCx X Ng x sg g cdg s H).nox e := hge
  refine ⟨_, pss_one (L2N.ps_try_as (X := (hCx X Ng x sg g cdg s H).nox) (c := .ref CR0) (Wout := fun _ _ _ _ => False) (i := i) (n := n)
      (tb := fun W D σ H => σ[0]? = some (some (.ref f)) ∧ H c' = some (CodeO c' q) ∧ tl (WE W σ) H (fun v H1 => ∀ q, H1 q = none → D.rt (.ref q) (upd H1 q (.tup [.str "told", v]))))
      (ts := fun a cls d D σ H => ∃ (ex : Exn) (C dd : Addr) (v : V) (G0 H0 : Hp), ex.cls ∈ errs ∧ X.mg ex.cls = some (.ref C) ∧ cls = .ref C ∧ d = some dd ∧ G0 dd = some (.xd [(("what" : Str), v)]) ∧ Rp X.K G0 v ex.what ∧ lfS X ⟨⟨G0, H0, T, fun _ => none⟩, fun _ _ _ _ => False⟩ (tsd ex a) D σ H)
      rfl rfl hN hi hin ⟨hgl, hde, .inl hme⟩ takesN0 (fun W pn xe tk _ => ?_) (fun a oe cls d pn hz hf => ?_)), ?_⟩
  · have hp := act W pn xe p1 p2 tk
    refine ⟨fun pins s' σ H' D I h' => ?_⟩
    obtain ⟨h1, h2, h3⟩ := h'
    exact (pss_one (ps_ret (pos := p3) (pe_tup (pa_cons pe_str (pa_cons hp pa_nil))))).run pins s' σ H' D I ⟨h1, h2, by
      have e : (fun v H1 => ∀ q, H1 q = none → D.rt (.ref q) (upd H1 q (.tup [.str "told", v]))) = fun v H1 => (2 ≤ sizeLine ∧ ∀ q, H1 q = none → D.rt (.ref q) (upd H1 q (.tup [.str "told", v]))) := by
        funext v H1
        exact propext ⟨fun z => ⟨by decide, z⟩, fun z => z.2⟩
      rw [e] at h3
      exact h3⟩
  · refine ⟨fun pins s' σ H' D I h' => ?_⟩
    obtain ⟨ex, C, dd, v, G0, H0, m1, m2, ec, ed, m3, m4, m5⟩ := h'
    subst ec ed
    obtain ⟨Γ, G, DD, r, t, l⟩ := m5
    exact (hsu ex C dd a v oe pn G0 H0 s H m1 m2 hz hf m3 m4).ps.run pins s' σ H' D I ⟨Γ, G, DD, r, t, ⟨l.nx, l.rt, l.bk, l.ct, l.ex⟩⟩
  · refine ⟨rfl, hc, h _ ?_⟩
    have hW : ∀ cls d H', hEch X.K X.mg T errs tsd Ng.length i Q cls d H' → wAs X.K (.ref CR0) i (fun a cls d D σ H => ∃ (ex : Exn) (C dd : Addr) (v : V) (G0 H0 : Hp), ex.cls ∈ errs ∧ X.mg ex.cls = some (.ref C) ∧ cls = .ref C ∧ d = some dd ∧ G0 dd = some (.xd [(("what" : Str), v)]) ∧ Rp X.K G0 v ex.what ∧ lfS X ⟨⟨G0, H0, T, fun _ => none⟩, fun _ _ _ _ => False⟩ (tsd ex a) D σ H) (fun _ _ _ _ => False) { nx := fun _ H' => Q .non H', rt := Q } cls d (L2.start Ng [.ref f]) H' := by
      intro cls d H' ⟨ex, C, dd, v, G, kk, m2, ec, ed, m3, m4, sG, nt, tT, ⟨m1, hr⟩, hk⟩
      subst ec ed
      refine ⟨true, hex _ m1 _ m2, fun _ a ha => ⟨ex, C, dd, v, G, H', m1, m2, rfl, rfl, m3, m4, (List.replicate Ng.length SC.u).set i (.pin (.ref a)), G, fastEnd kk, ?_, hr a, ?_⟩, fun z => Bool.noConfusion z⟩
      · have hl : 0 < Ng.length := (List.getElem?_eq_some_iff.mp h0).1
        have hl2 : (L2.start Ng [V.ref f]).length = Ng.length := by
          unfold L2.start
          rw [List.length_append, List.length_map, List.length_replicate]
          show 1 + (Ng.length - 1) = Ng.length
          omega
        refine ⟨Grow.refl sG nt, tT, by rw [List.length_set, List.length_set, List.length_replicate, hl2], fun k c e => ?_, fun k l ck cl b n e1 e2 o1 o2 => ?_⟩
        · by_cases hk : i = k
          · subst hk
            have hlt : i < Ng.length := (List.getElem?_eq_some_iff.mp hi).1
            rw [List.getElem?_set_self (by rw [List.length_replicate]; exact hlt)] at e
            cases e
            exact ⟨_, List.getElem?_set_self (by rw [hl2]; exact hlt), rfl⟩
          · rw [List.getElem?_set_ne hk] at e ⊢
            rw [List.getElem?_replicate] at e
            split at e
            · rename_i hlt
              cases e
              exact ⟨_, List.getElem?_eq_getElem (by rw [hl2]; exact hlt), trivial⟩
            · cases e
        · by_cases hk : i = k
          · subst hk
            rw [List.getElem?_set_self (by rw [List.length_replicate]; exact (List.getElem?_eq_some_iff.mp hi).1)] at e1
            cases e1
            cases o1
          · rw [List.getElem?_set_ne hk, List.getElem?_replicate] at e1
            split at e1
            · cases e1; cases o1
            · cases e1
      · refine ⟨fun _ _ _ _ z => z.elim, fun r Γ' G' σ' v' H'' qr rl sm rr => ?_, fun _ _ _ _ z => z.elim, fun _ _ _ _ z => z.elim, fun σ' _ _ _ _ _ _ z => z.elim⟩
        cases r with
        | o _ => exact qr.elim
        | d z =>
          refine hk z G' v' H'' qr (rl.gr.imp fun p hp _ => ?_) rl.tab rr
          obtain ⟨_, hp⟩ := hp
          cases hp
    exact hW
/-- f(lambda: e) -/
@[simp] def dHeard (errs : List Str) (tsd : Exn → Addr → TSd) (n i : Nat) (te : TD) : TD := fun Γ P _ => te Γ (fun d Γ1 => P (.tuple [.str "told", d]) Γ1) fun x Γ1 => hRes errs tsd n i x fun z => P z Γ1
theorem de_heard {Z : Dx} {T : List (Addr × Str)} {errs : List Str} {tsd : Exn → Addr → TSd} {te : TD} {x a : Str} {g c P : Addr} {k n i : Nat} {pg : Arguments} {bg : List Stmt} {sg : Scope} {dV kV doc pm cdv ct oc : Value} {an od : Option Addr} {osl : Array (Option Value)} {Ng : List Str}
    {params : Arguments} {body : Expr} {scope : Scope} {p lpos pos : Pos} (hg : Gl X x) (hm : X.mg x = some (.ref g)) (hk : PySem.W.keepIn X.K (.ref g) = true)
    (lk : X.K.lookup g = some ⟨oc, od, .func (PySem.W.fnOf x x pg bg sg dV kV doc pm an cdv ct), osl⟩) (hcg : PySem.W.codeIn X.K cdv x = true) (hb : L2.Binds X.K (PySem.W.fnOf x x pg bg sg dV kV doc pm an cdv ct) [a] []) (Sg : FnScope Ng [a] sg) (hNg : Ng[0]? = some a) (hva : Vis sg a)
    (hT : Z.En.T = T)
    (hG : GivesN X Ng x sg g cdv bg a (X.env.qual ++ "<lambda>") (hTT X.K X.mg T errs tsd n i))
    (TB : TabB X.base X.mg c P) (hcode : X.env.code = .ref c) (hmT : (P, X.env.qual ++ "<lambda>") ∈ T) (hu : ∀ p ∈ T, p.1 = P → p.2 = X.env.qual ++ "<lambda>") (hr : Room (k + 2) X.A) (L : LamS X.env.scope scope) (hdef : defaultsOf params X.env = ([], []))
    (hbind : ∀ (q : Str) (cl : List (Str × Addr)) (pm cv ctv : Value), bindArgs (PySem.W.kla_fn "<lambda>" q params body scope cl pm cv ctv) ⟨[], []⟩ = pure [])
    (hbody : ∀ (E : XK) (A : Around) (outer : List Env) (s : Shared) (H : Hp) (f c' : Addr), Room k (A.deeper (lamEnv X scope s.heap.objs.size f c')) → DE (lamN X A outer s H E scope f c') ⟨Z.En, fun cls d _ H => E cls d H⟩ body te)
    (hdb : (x == ("__debug__" : Str)) = false := by decide) (hd : (a == ("__debug__" : Str)) = false := by decide) (hcd : (a == ("__classdict__" : Str)) = false := by decide) :
    DE X Z (.Call (.Name x p) [.Lambda params body scope lpos] [] pos) (dHeard errs tsd n i te) := by
  subst hT
  refine ⟨PE.imp (pe_lamcallN (t := fun E => lfE X ⟨Z.En, fun cls d _ H => E cls d H⟩ te) hg hm hk lk hcg hb Sg hNg hva hG TB hcode hmT hu hr L hdef hbind (fun E A outer s H f c' hr2 => (hbody E A outer s H f c' hr2).pe) hdb hd hcd) fun σ H Q hh => ?_⟩
  obtain ⟨Γ, G, PP, EE, r, t, kk, xx⟩ := hh
  refine ⟨r.tab, fun H1 eN eK T1 E hE => ?_⟩
  obtain ⟨r1, a1⟩ := r.ext eN eK T1
  refine ⟨Γ, G, _, _, r1, t, fun d Γ2 G2 v H2 q2 r2 a2 p2 q hq => ?_, fun ex Γ2 G2 cls d H2 e2 r2 a2 rx => hE _ _ _ ?_⟩
  · obtain ⟨st, rp⟩ := pair_new (d := .str "told") r2.sub hq (.str "told" (by decide +kernel) (by decide +kernel)) p2
    exact kk _ Γ2 _ _ _ q2 (r2.stp st) ((a1.trans a2).trans (.step r2 st)) rp
  · obtain ⟨C, dd, v, ec, m, ed, gd, hv⟩ := rx
    refine ⟨ex, C, dd, v, G2, _, m, ec, ed, gd, hv, r2.sub, r2.ntb, r2.tab, e2, fun z G3 v3 H3 hz g3 t3 p3 => ?_⟩
    exact kk z Γ2 G3 v3 H3 hz (r2.grow g3 t3) ((a1.trans a2).trans (.grow g3)) p3
end
end DL

set_option Elab.async false
set_option linter.all false
set_option maxRecDepth 100000
set_option maxHeartbeats 4000000
/-! The data layer, part 18: the script; what the top leaves, by names. -/
namespace DL
open PySem PySem.Spec PyProof.Rows L2

/-! ### the script: a list of ints that stands as it is -/
theorem sqL_mono {K : PySem.W.Frag} {H H' : Hp} {a : Addr} {xs : List V} (e : Same H H') (h : SqL K H a xs) : SqL K H' a xs := by
  rcases h with (h | ⟨o, h⟩) | h
  · exact .inl (.inl (e _ _ h))
  · exact .inl (.inr ⟨o, e _ _ h⟩)
  · exact .inr h
/-- what a def that gets the script promises -/
def spS (K : PySem.W.Frag) (mg : Str → Option Value) (T : List (Addr × Str)) (np : Nat) (M : Addr → List Int → MF) : Sp := fun vs H Q E => ∃ (a : Addr) (ns : List Int), spDG (fun G => SqL K G a (ns.map V.int)) K mg T np (M a ns) vs H Q E
theorem fn_okS {P : Program} {w : World} {K : PySem.W.Frag} {mg : Str → Option Value} {base : Heap} {CX : CXT} {T : List (Addr × Str)} {k : Nat} {f : Addr} {fd : FuncData} {ps : List Str} {M : Addr → List Int → MF} (h : ∀ a ns, FnOk P w K mg base CX k f fd ps (spDG (fun G => SqL K G a (ns.map V.int)) K mg T ps.length (M a ns))) :
    FnOk P w K mg base CX k f fd ps (spS K mg T ps.length M) :=
  ⟨fun vs H Q E ⟨a, ns, z⟩ => (h a ns).len vs H Q E z, fun A outer s H args us vs Q E hr e0 hb r ⟨a, ns, z⟩ => (h a ns).run A outer s H args us vs Q E hr e0 hb r z⟩
section
variable {X : Cx} {Z : Dx} {e o : Expr} {te : TD} {i : Nat} {a : Addr} {ns : List Int} {p pos : Pos}
@[simp] def dPinLen (i : Nat) (a : Addr) (ns : List Int) : TD := fun Γ P _ => hasPin Γ i a ∧ P (.int ns.length) Γ
theorem de_pinLen (hE : SqL X.K Z.En.G a (ns.map V.int)) (hg : Gl X "len") (hm : X.mg "len" = none) (ho : PE X o (tVar i)) (hs : starEach [o] X.env = (false, eval o X.env) :: starEach [] X.env := by rfl) (hpl : (backTo pos (starEach [] X.env)).any (·.1) = false := by rfl) :
    DE X Z (.Call (.Name "len" p) [o] [] pos) (dPinLen i a ns) := by
  refine ⟨PE.imp (pe_callB (cr_len (X := X)) hg hm (by decide +kernel) (pa_cons ho pa_nil hs) (by decide) (by decide) hs hpl) fun σ H Q hh => ?_⟩
  obtain ⟨Γ, G, P, E, r, ⟨hp, t⟩, k, x⟩ := hh
  obtain ⟨u, e1, e2⟩ := r.slot i _ hp
  have e2' : u = some (V.ref a) := e2
  subst e2'
  refine ⟨.ref a, e1, .inl ⟨a, _, rfl, .inl (sqL_mono (r.gr.ext.trans r.sub) hE), ?_⟩⟩
  rw [List.length_map]
  exact k _ Γ G _ H t r .refl (.int _)
@[simp] def dPinIx (i : Nat) (a : Addr) (ns : List Int) (te : TD) : TD := fun Γ P E => hasPin Γ i a ∧ te Γ (fun d Γ1 => match d with
  | .int j => (match atI ns j with
    | some z => P (.int z) Γ1
    | none => False)
  | _ => False) E
theorem atI_map {j z : Int} (h : atI ns j = some z) : atI (ns.map V.int) j = some (.int z) := by
  unfold atI at h ⊢
  rw [List.length_map]
  cases ej : ixN ns.length j with
  | none => rw [ej] at h; cases h
  | some m =>
    rw [ej] at h
    have h' : ns[m]? = some z := h
    show (ns.map V.int)[m]? = _
    rw [List.getElem?_map, h']
    rfl
theorem de_pinIx (hE : SqL X.K Z.En.G a (ns.map V.int)) (ho : PE X o (tVar i)) (he : DE X Z e te) (hs : PlainIx e) : DE X Z (.Subscript o e pos) (dPinIx i a ns te) := by
  refine ⟨PE.imp (pe_ix (r := rIx X.K) ix_seq ho he.pe hs) fun σ H Q hh => ?_⟩
  obtain ⟨Γ, G, P, E, r, ⟨hp, t⟩, k, x⟩ := hh
  obtain ⟨u, e1, e2⟩ := r.slot i _ hp
  have e2' : u = some (V.ref a) := e2
  subst e2'
  refine ⟨.ref a, e1, Γ, G, _, E, r, t, fun d Γ1 G1 v1 H1 q1 r1 s1 p1 => ?_, x⟩
  cases d with
  | int j =>
    dsimp only at q1
    cases ez : atI ns j with
    | none => rw [ez] at q1; exact q1.elim
    | some z =>
      rw [ez] at q1
      rw [p1.int_inv]
      exact .inl ⟨a, _, j, .int z, rfl, rfl, (sqL_mono ((r.gr.ext.trans s1.same).trans r1.sub) hE), atI_map ez, k _ Γ1 G1 _ H1 q1 r1 s1 (.int z)⟩
  | _ => exact q1.elim
/-- f(script): an own result -/
@[simp] def oCallP (i : Nat) (a : Addr) (m : MF) : TOd := fun Γ P _ => hasPin Γ i a ∧ m [.pin (.ref a)] (fun r _ => match r with
  | .o c => P c Γ
  | .d _ => False) no
end

/-! ### what the top leaves -/
open He
def oexB (K : PySem.W.Frag) (C : Addr) : Bool := match K.lookup C with
  | some ⟨.type "type", _, .cls cd, sl⟩ => (match cd.mro, sl.toList with
    | .ref C' :: bm, [_, _, _, _, some (.builtin n), _] => decide (C' = C) && (decide (n = "ValueError.__new__") && (!cd.hasDel && (cd.hasDict && PySem.HandSPX.refsVE bm)))
    | _, _ => false)
  | _ => false
theorem oexB_ok {K : PySem.W.Frag} {C : Addr} (h : oexB K C = true) : ∃ nm q N bs bm sn sub ab col dd k0 k1 k2 k3 k5, K.lookup C = some (excClassObj nm q C N bs bm true sn sub ab col dd k0 k1 k2 k3 k5 "ValueError.__new__") ∧ PySem.HandSPX.refsVE bm = true := by
  unfold oexB at h
  split at h
  · rename_i dd cd sl ho
    split at h
    · rename_i C' bm k0 k1 k2 k3 n k5 hm hs
      obtain ⟨h1, h⟩ := ba h
      obtain ⟨h2, h⟩ := ba h
      obtain ⟨h3, h⟩ := ba h
      obtain ⟨h4, h5⟩ := ba h
      have e1 := of_decide_eq_true h1
      have e2 := of_decide_eq_true h2
      subst e1 e2
      obtain ⟨nm, bs, mro, ns, qn, hd, sn, sub, ab, col, del⟩ := cd
      dsimp only at hm h3 h4
      have e3 : del = false := by
        cases del with
        | false => rfl
        | true => cases h3
      subst hm h4 e3
      have hsl : sl = #[k0, k1, k2, k3, some (.builtin "ValueError.__new__"), k5] := by
        obtain ⟨l⟩ := sl
        simp only at hs
        rw [hs]
      subst hsl
      exact ⟨nm, qn, ns, bs, bm, sn, sub, ab, col, dd, k0, k1, k2, k3, k5, ho, h5⟩
    · cases h
  · cases h
/-- a class of errors by its name; its __init__ stands in the class of that name -/
def errB (K : PySem.W.Frag) (base x : Str) : Bool :=
  oexB K (ga K x) && (eqO (PySem.W.findIn K (.ref (ga K x)) "__setattr__") (some (some (.builtin "object.__setattr__"))) && (decide (PySem.W.subIn K (.ref (ga K x)) (.type "BaseException") = some true) && (decide (PySem.W.typeIn K (.ref (ga K x)) = some (.type "type")) &&
  (PySem.W.keepIn K (.ref (ga K x)) && (eqO (PySem.W.findIn K (.ref (ga K x)) "what") (some none) && (eqO (PySem.W.findIn K (.ref (ga K x)) "__init__") (some (some (.ref (ma K (ga K base) "__init__")))) && (decide (PySem.W.typeIn K (.ref (ma K (ga K base) "__init__")) = some (.type "function")) &&
  (eqO (PySem.W.nsIn K mainGlobals x) (some (some (.ref (ga K x)))) && (eqO (PySem.W.findIn K (.ref (ga K x)) "__getattribute__") (some (some (.builtin "BaseException.__getattribute__"))) && (eqO (PySem.W.findIn K (.ref (ga K x)) "__getattr__") (some none) && (PySem.W.hasDictIn K (ga K x) &&
  (eqO (PySem.W.findIn K (.ref (ga K x)) "__class__") (some (some (.builtin "object.__class__"))) && (eqO (PySem.W.specialIn K (.builtin "object.__class__") "__get__") (some (some (.builtin "getset_descriptor.__get__"))) && (decide (PySem.W.takesIn K (.builtin "object.__class__") = some true) &&
  (decide (PySem.W.mroIn K (ga K x) (.type "object") = some true) && decide (PySem.W.exmOne K (.ref (ga K x)) (.ref (ga K base)) = some true))))))))))))))))
structure ErrK (K : PySem.W.Frag) (mg : Str → Option Value) (base x : Str) : Prop where
  err : ErrC K mg x (ga K x) (ma K (ga K base) "__init__")
  exc : ExcC K (ga K x)
  xf : XfC K (ga K x)
  exm : PySem.W.exmOne K (.ref (ga K x)) (.ref (ga K base)) = some true
theorem errB_ok {K : PySem.W.Frag} {h : Heap} {mg : Str → Option Value} {base x : Str} (X : K.In h) (G : h.Ns mainGlobals mg) (e : errB K base x = true) : ErrK K mg base x := by
  obtain ⟨h1, e⟩ := ba e
  obtain ⟨h2, e⟩ := ba e
  obtain ⟨h3, e⟩ := ba e
  obtain ⟨h4, e⟩ := ba e
  obtain ⟨h5, e⟩ := ba e
  obtain ⟨h6, e⟩ := ba e
  obtain ⟨h7, e⟩ := ba e
  obtain ⟨h8, e⟩ := ba e
  obtain ⟨h9, e⟩ := ba e
  obtain ⟨h10, e⟩ := ba e
  obtain ⟨h11, e⟩ := ba e
  obtain ⟨h12, e⟩ := ba e
  obtain ⟨h13, e⟩ := ba e
  obtain ⟨h14, e⟩ := ba e
  obtain ⟨h15, e⟩ := ba e
  obtain ⟨h16, h17⟩ := ba e
  exact ⟨⟨⟨oexB_ok h1, eqO_ok h2, of_decide_eq_true h3, of_decide_eq_true h4, h5⟩, eqO_ok h6, eqO_ok h7, of_decide_eq_true h8, PySem.W.mg_of X G (eqO_ok h9)⟩,
    ⟨eqO_ok h10, eqO_ok h11, of_decide_eq_true h3, h12, eqO_ok h13, eqO_ok h14, of_decide_eq_true h15, of_decide_eq_true h16⟩, ⟨eqO_ok h10, eqO_ok h11, of_decide_eq_true h3, h12⟩, of_decide_eq_true h17⟩
def kindB (K : PySem.W.Frag) (x y : Str) (b : Bool) : Bool := decide (PySem.W.kitOne K (.ref (ga K x)) (.ref (ga K y)) = some b)
def veB (K : PySem.W.Frag) : Bool := match PySem.W.findCls K (.type "ValueError") (.type "type") "__init__" with
  | some (.val v) => decide (v = .builtin "ValueError.__init__")
  | _ => false
theorem veB_ok {K : PySem.W.Frag} (h : veB K = true) : PySem.W.findCls K (.type "ValueError") (.type "type") "__init__" = some (.val (.builtin "ValueError.__init__")) := by
  unfold veB at h
  split at h
  · rename_i v e
    rw [e, of_decide_eq_true h]
  · cases h
def fdOf (K : PySem.W.Frag) (p : Str × Option Str) : FuncData := match K.lookup (fAd K p) with
  | some ⟨_, _, .func fd, _⟩ => fd
  | _ => PySem.W.fnOf "" "" ⟨[], [], none, [], [], none, []⟩ [] ⟨.function, [], false, false, []⟩ .none .none .none .none none .none .none
def mkD (p : Str × Option Str) (x q : Str) (st : Stmt) : DefD := ⟨p, x, q, defArgs st, defBody st, defScope st, [], []⟩
theorem funC_of {K : PySem.W.Frag} {fa : List Fa} {fn : List DefD} (c : SaysD fa fn K) {p : Str × Option Str} {x q : Str} {st : Stmt} (h : mkD p x q st ∈ fn) : FunC K x q st (fAd K p) (fdOf K p) (.ref (codeOf K p)) := by
  obtain ⟨fd, F⟩ := c.defs h
  obtain ⟨oc, od, dV, kV, doc, pm, an, cdv, ct, osl, e, lk, hcd, hD, hK⟩ := F.ex
  obtain ⟨cc, ec⟩ := codeIn_ref hcd
  have e1 : fdOf K p = fd := by
    unfold fdOf
    have lk' : K.lookup (fAd K p) = some ⟨oc, od, .func fd, osl⟩ := lk
    rw [lk']
  have e2 : codeOf K p = cc := codeOf_eq lk (by rw [e]; exact ec)
  have dV0 : dV = .none := by
    rcases hD with ⟨_, z⟩ | ⟨z, _⟩
    · exact z
    · exact absurd rfl z
  subst dV0
  rw [e1, e2]
  exact ⟨⟨oc, od, kV, doc, pm, an, ct, osl, by rw [e, ec]; rfl, lk, by rw [← ec]; exact hcd⟩, F.kp⟩
end DL

set_option Elab.async false
set_option linter.all false
set_option maxRecDepth 100000
set_option maxHeartbeats 4000000
/-! The data layer, part 19: short forms; fresh lists; three at once. -/
namespace DL
open PySem PySem.Spec PyProof.Rows L2

section
variable {X : Cx} {Z : Dx} {a b c e o : Expr} {ta tb te : TD} {pos p : Pos} {i j l : Nat} {x y z : Str}
theorem tv (hN : X.N[i]? = some x := by rfl) (hv : Vis X.env.scope x := by first | exact .inl rfl | exact .inr (.inl rfl) | exact .inr (.inr rfl)) (hd : (x == ("__debug__" : Str)) = false := by decide) (hcd : (x == ("__classdict__" : Str)) = false := by decide) : PE X (.Name x pos) (tVar i) := pe_var hN hv hd hcd
theorem dv (hN : X.N[i]? = some x := by rfl) (hv : Vis X.env.scope x := by first | exact .inl rfl | exact .inr (.inl rfl) | exact .inr (.inr rfl)) (hd : (x == ("__debug__" : Str)) = false := by decide) (hcd : (x == ("__classdict__" : Str)) = false := by decide) : DE X Z (.Name x pos) (dVar i) := de_var (pe_var hN hv hd hcd)
theorem dgv (hn : X.N.Nodup) (hN : X.N[i]? = some x := by rfl) (hx : Loc X.env.scope x := by first | exact .inl rfl | exact .inr rfl) (hf : X.fn x = true ∨ X.env.scope.names.lookup x = some .local := by first | exact .inl rfl | exact .inr rfl | assumption) : DG X Z (.Name x pos) [i] (gNm i) := dg_nm (g := gName i) (pg_name hn hN hx hf)
/-- operators that make a new list -/
@[simp] def opAddO (d e : PD) (k : List PD → Prop) : Prop := match d, e with
  | .list xs, .list ys => xs.length + ys.length ≤ sizeLine ∧ k (xs ++ ys)
  | _, _ => False
@[simp] def opMulO (d e : PD) (k : List PD → Prop) : Prop := match d, e with
  | .list xs, .int n => -(2 ^ 63) ≤ n ∧ n < 2 ^ 63 ∧ xs.length * n.toNat ≤ sizeLine ∧ k (repD n xs)
  | _, _ => False
@[simp] def o2 (f : PD → PD → (List PD → Prop) → Prop) (ta tb : TD) : TOd := fun Γ P E => ta Γ (fun d Γ1 => tb Γ1 (fun e Γ2 => f d e fun xs => P (.lst xs) Γ2) E) E
theorem do_add (ha : DE X Z a ta) (hb : DE X Z b tb) : DO X Z (.BinOp a .Add b pos) (o2 opAddO ta tb) := by
  refine ⟨PE.imp (pe_op op_cat ha.pe hb.pe) fun σ H Q hh => ?_⟩
  obtain ⟨Γ, G, P, E, r, t, k, xk⟩ := hh
  refine ⟨Γ, G, _, E, r, t, fun d Γ1 G1 v1 H1 q1 r1 s1 p1 => ⟨Γ1, G1, _, E, r1, q1, fun e Γ2 G2 v2 H2 q2 r2 s2 p2 => ?_, xk.up s1⟩, xk⟩
  have s3 := s1.trans s2
  have p1' := p1.up s2.same
  cases p1' with
  | @lst q vs ds h t hz =>
    cases p2 with
    | @lst q2' ws es h2 t2 hz2 =>
      refine ⟨_, _, vs, ws, rfl, rfl, r2.sub _ _ h, r2.sub _ _ h2, by rw [t.length, t2.length]; exact q2.1, fun p hp => ?_⟩
      exact k (.lst (ds ++ es)) Γ2 G2 p _ q2.2 (r2.fresh hp) (s3.trans (.grow (Grow.fresh r2.sub r2.ntb hp))) (OwnAt.new r2 hp (.lst (t.append t2) (by rw [List.length_append]; exact q2.1))) (none_back s3 hp)
    | _ => exact q2.elim
  | _ => exact q2.elim
theorem do_mul (ha : DE X Z a ta) (hb : DE X Z b tb) : DO X Z (.BinOp a .Mult b pos) (o2 opMulO ta tb) := by
  refine ⟨PE.imp (pe_op op_rep ha.pe hb.pe) fun σ H Q hh => ?_⟩
  obtain ⟨Γ, G, P, E, r, t, k, xk⟩ := hh
  refine ⟨Γ, G, _, E, r, t, fun d Γ1 G1 v1 H1 q1 r1 s1 p1 => ⟨Γ1, G1, _, E, r1, q1, fun e Γ2 G2 v2 H2 q2 r2 s2 p2 => ?_, xk.up s1⟩, xk⟩
  have s3 := s1.trans s2
  have p1' := p1.up s2.same
  cases p1' with
  | @lst q vs ds h t hz =>
    cases e with
    | int n =>
      obtain ⟨h1, h2, h3, q2⟩ := q2
      rw [p2.int_inv]
      refine ⟨_, n, vs, rfl, rfl, r2.sub _ _ h, h1, h2, by rw [t.length]; exact h3, fun p hp => ?_⟩
      exact k (.lst (repD n ds)) Γ2 G2 p _ q2 (r2.fresh hp) (s3.trans (.grow (Grow.fresh r2.sub r2.ntb hp))) (OwnAt.new r2 hp (.lst (t.flat n.toNat) (by rw [repD_len, Nat.mul_comm]; exact h3))) (none_back s3 hp)
    | _ => exact q2.elim
  | _ => exact q2.elim
/-- list(x), new -/
@[simp] def oLst (ta : TLd) : TOd := fun Γ P E => ta Γ (fun ds Γ1 => match ds with
  | [.list xs] => P (.lst xs) Γ1
  | [.tuple xs] => P (.lst xs) Γ1
  | _ => False) E
theorem do_list (hg : Gl X "list") (hm : X.mg "list" = none) (ha : DE X Z a ta) (hs : starEach [a] X.env = (false, eval a X.env) :: starEach [] X.env := by rfl) (hpl : (backTo pos (starEach [] X.env)).any (·.1) = false := by rfl) : DO X Z (.Call (.Name "list" p) [a] [] pos) (oLst (dCons ta dNil)) := by
  refine ⟨PE.imp (pe_callTy call_list_of hg hm (by decide +kernel) (dl_cons ha dl_nil hs).pa (by decide) (by decide) hs hpl) fun σ H Q hh => ?_⟩
  obtain ⟨Γ, G, P, E, r, t, k, xk⟩ := hh
  refine ⟨Γ, G, _, E, r, t, fun ds Γ1 G1 vs H1 q1 r1 s1 p1 => ?_, xk⟩
  split at q1
  · obtain ⟨v, rfl, h⟩ := rps1 p1
    cases h with
    | lst h t hz => exact ⟨_, _, rfl, .inl (sqL_of h r1.sub), fun l hl => k _ Γ1 G1 l _ q1 (r1.fresh hl) (s1.trans (.grow (Grow.fresh r1.sub r1.ntb hl))) (OwnAt.new r1 hl (.lst t hz)) (none_back s1 hl)⟩
  · obtain ⟨v, rfl, h⟩ := rps1 p1
    cases h with
    | tup h t hz => exact ⟨_, _, rfl, .inr (sqT_mono r1.sub h), fun l hl => k _ Γ1 G1 l _ q1 (r1.fresh hl) (s1.trans (.grow (Grow.fresh r1.sub r1.ntb hl))) (OwnAt.new r1 hl (.lst t hz)) (none_back s1 hl)⟩
  · exact q1.elim
/-- x, y, z = a, b, c -/
@[simp] def sPar3 (i j l : Nat) (t : TRd) : TSd := fun D Γ => t Γ (fun rs Γ1 => match rs with
  | [r, q, s] => D.nx (setR (setR (setR Γ1 i r) j q) l s)
  | _ => False) D.ex
theorem RRels.three {K : PySem.W.Frag} {En : Ent} {Γ : SS} {G : Hp} {σ : L2.St} {H : Hp} {vs : List V} {r q s : Res} (h : RRels K En Γ G σ H vs [r, q, s]) : ∃ u v w, vs = [u, v, w] := by
  cases h with
  | consD _ t => cases t with
    | consD _ t => cases t with
      | consD _ t => cases t; exact ⟨_, _, _, rfl⟩
      | consO _ _ t => cases t; exact ⟨_, _, _, rfl⟩
    | consO _ _ t => cases t with
      | consD _ t => cases t; exact ⟨_, _, _, rfl⟩
      | consO _ _ t => cases t; exact ⟨_, _, _, rfl⟩
  | consO _ _ t => cases t with
    | consD _ t => cases t with
      | consD _ t => cases t; exact ⟨_, _, _, rfl⟩
      | consO _ _ t => cases t; exact ⟨_, _, _, rfl⟩
    | consO _ _ t => cases t with
      | consD _ t => cases t; exact ⟨_, _, _, rfl⟩
      | consO _ _ t => cases t; exact ⟨_, _, _, rfl⟩
theorem ds_par3 {t : TRd} {px py pz pt pt2 : Pos} {kt k2 : Nat} (hc : X.calm = true) (hN : X.N.Nodup) (hi : X.N[i]? = some x) (hj : X.N[j]? = some y) (hl : X.N[l]? = some z) (hij : i ≠ j) (hil : i ≠ l) (hjl : j ≠ l)
    (hx : X.env.scope.names.lookup x = some .local) (hy : X.env.scope.names.lookup y = some .local) (hz : X.env.scope.names.lookup z = some .local) (ha : DR X Z [a, b, c] t)
    (hw : swappedStores [.Tuple [.Name x px, .Name y py, .Name z pz] kt pt] (.Tuple [a, b, c] k2 pt2) X.env = pure (some [x, y, z]) := by rfl)
    (hs : swapsWithSole [.Tuple [.Name x px, .Name y py, .Name z pz] kt pt] (.Tuple [a, b, c] k2 pt2) pos.line X.env = pure false := by rfl) :
    DS X Z (.Assign [.Tuple [.Name x px, .Name y py, .Name z pz] kt pt] (.Tuple [a, b, c] k2 pt2) pos) (sPar3 i j l t) := by
  refine ⟨PS.imp (ps_par3 hc hN hi hj hl hij hil hjl hx hy hz ha.pa hw hs) fun D σ H hh => ?_⟩
  obtain ⟨Γ, G, DD, r, t, lk⟩ := hh
  refine ⟨Γ, G, _, _, r, t, fun rs Γ1 G1 vs H1 q1 r1 s1 p1 n1 => ?_, (lk.ex σ).adv⟩
  split at q1
  · obtain ⟨u, v, w, rfl⟩ := p1.three
    obtain ⟨a1, a2⟩ := p1.set1 (i := i) r1
    obtain ⟨b1, b2⟩ := a2.set1 (i := j) a1
    obtain ⟨c1, _⟩ := b2.set1 (i := l) b1
    exact ⟨u, v, w, rfl, lk.nx _ G1 _ H1 q1 c1 s1.same⟩
  · exact q1.elim
/-- f(script) -/
theorem do_callP {k : Nat} {f : Addr} {fd : FuncData} {ps : List Str} {M : Addr → List Int → MF} {ad : Addr} {ns : List Int} {T : List (Addr × Str)} (F : FnOk X.prog X.w X.K X.mg X.base (L2N.CX X.prog X.w) k f fd ps (spS X.K X.mg T 1 M)) (hT : Z.En.T = T) (hE : SqL X.K Z.En.G ad (ns.map V.int)) (hr : Room k X.A) (hg : Gl X x) (hm : X.mg x = some (.ref f)) (hk : PySem.W.keepIn X.K (.ref f) = true) (hb : Binds X.K fd ps [])
    (ho : PE X o (tVar i)) (hdb : (x == ("__debug__" : Str)) = false := by decide) (hs : starEach [o] X.env = (false, eval o X.env) :: starEach [] X.env := by rfl) (hpl : (backTo pos (starEach [] X.env)).any (·.1) = false := by rfl) :
    DO X Z (.Call (.Name x p) [o] [] pos) (oCallP i ad (M ad ns)) := by
  subst hT
  refine ⟨PE.imp (pe_callS (E := fun _ => E0) F hr hg hm hk hb (fun σ pins H s e s' I c => passLN pins σ H s e s' I c) (pa_cons ho pa_nil hs) hdb hs hpl) fun σ H Q hh => ?_⟩
  obtain ⟨Γ, G, P, E, r, ⟨hp, t⟩, kk, xk⟩ := hh
  obtain ⟨u, e1, e2⟩ := r.slot i _ hp
  have e2' : u = some (V.ref ad) := e2
  subst e2'
  refine ⟨.ref ad, e1, ad, ns, rfl, G, [.pin (.ref ad)], _, no, sqL_mono r.gr.ext hE, r.sub, r.ntb, r.tab, ⟨rfl, fun m c e => ?_, fun m n ci cj a ne e1 e2 => ?_⟩, t, fun rr cs G' v H' q post rel => ?_, fun _ _ _ _ _ _ z => z.elim⟩
  · cases m with
    | zero =>
      simp at e
      subst e
      exact ⟨_, rfl, rfl⟩
    | succ m => simp at e
  · cases m with
    | zero => simp at e1
    | succ m => simp at e1
  · cases rr with
    | d d => exact q.elim
    | o c =>
      obtain ⟨a', o', rfl, h0, h1, h2, h3⟩ := rel
      have g : Grow no1 G H G' H' := post.gr.imp fun p ⟨m, c, e, _⟩ _ => by
        cases m with
        | zero => simp at e
        | succ m => simp at e
      have r2 := r.grow g post.tab
      have ad2 : Adv Γ σ G H Γ σ G' H' := .grow g
      exact kk c Γ G' a' H' q r2 ad2 ⟨⟨o', h1, h2⟩, h3, r.freeE h0, r.apart h0⟩ h0
end
end DL

set_option Elab.async false
set_option linter.all false
set_option maxRecDepth 100000
set_option maxHeartbeats 4000000
/-! The data layer, part 20: tables of code objects; the end. -/
namespace DL
open PySem PySem.Spec PyProof.Rows L2 LamX He

def TTof (K : PySem.W.Frag) (tf : List Defn) : List (Addr × Str) := tf.map fun p => ((cT K p).2, (p.1 ++ ".<locals>.") ++ "<lambda>")
def ndT (K : PySem.W.Frag) (tf : List Defn) : Bool := decide (tf.map fun p => (cT K p).2).Nodup
theorem tt_mem {K : PySem.W.Frag} {tf : List Defn} {p : Defn} (h : p ∈ tf) : ((cT K p).2, (p.1 ++ ".<locals>.") ++ "<lambda>") ∈ TTof K tf := List.mem_map.mpr ⟨p, h, rfl⟩
theorem tt_un {K : PySem.W.Frag} {tf : List Defn} {p : Defn} (n : ndT K tf = true) (h : p ∈ tf) : ∀ q ∈ TTof K tf, q.1 = (cT K p).2 → q.2 = (p.1 ++ ".<locals>.") ++ "<lambda>" := by
  intro q hq e
  obtain ⟨r, hr, rfl⟩ := List.mem_map.mp hq
  have n' : (tf.map fun p => (cT K p).2).Nodup := of_decide_eq_true n
  have key : ∀ {l : List Defn}, (l.map fun p => (cT K p).2).Nodup → r ∈ l → p ∈ l → (cT K r).2 = (cT K p).2 → r = p := by
    intro l
    induction l with
    | nil => intro _ h; cases h
    | cons a l ih =>
      intro nd h1 h2 e
      rw [List.map_cons, List.nodup_cons] at nd
      rcases List.mem_cons.mp h1 with k1 | k1
      · rcases List.mem_cons.mp h2 with k2 | k2
        · rw [k1, k2]
        · exact absurd (List.mem_map.mpr ⟨p, k2, by rw [← e, k1]⟩) nd.1
      · rcases List.mem_cons.mp h2 with k2 | k2
        · exact absurd (List.mem_map.mpr ⟨r, k1, by rw [e, k2]⟩) nd.1
        · exact ih nd.2 k1 k2 e
  rw [key n' hr h e]
theorem room_hu {k : Nat} {A : Around} (r : Room k A) : A.units + 64 < cLine := by
  have := r.un
  omega
abbrev TB (K : PySem.W.Frag) (mg : Str → Option Value) (base : Heap) (tf : List Defn) : Prop := ∀ p ∈ tf, TabB base mg (cT K p).1 (cT K p).2
theorem passE {X : Cx} : Passes (L2N.CX X.prog X.w) X (fun _ _ _ => False) := passLN
def blkB (N : List Str) (sc scope : Scope) (own : List (Str × Nat)) : Bool :=
  decide (scope.kind = .function) && ((scope.names.all fun y => decide (scope.names.lookup y.1 = some y.2)) && ((own.all fun p => decide (N[p.2]? = some p.1)) && ((scope.names.all fun y => !decide (y.2 = .free) || (decide (sc.names.lookup y.1 = some .cell) || decide (sc.names.lookup y.1 = some .free))) &&
    scope.names.all fun y => !(decide (y.2 = .local) || decide (y.2 = .cell)) || ((own.map (·.1)).contains y.1 || !N.contains y.1))))
theorem blk_by {N : List Str} {sc scope : Scope} {own : List (Str × Nat)} (h : blkB N sc scope own = true) : BlkOk N sc scope own := by
  obtain ⟨h1, h⟩ := ba h
  obtain ⟨h2, h⟩ := ba h
  obtain ⟨h3, h⟩ := ba h
  obtain ⟨h4, h5⟩ := ba h
  refine ⟨of_decide_eq_true h1, fun y hy => of_decide_eq_true (List.all_eq_true.mp h2 y hy), fun p hp => of_decide_eq_true (List.all_eq_true.mp h3 p hp), fun y hy e => ?_, fun y hy e => ?_⟩
  · have z := List.all_eq_true.mp h4 y hy
    rw [e] at z
    rcases Bool.or_eq_true_iff.mp z with z | z
    · cases z
    · rcases Bool.or_eq_true_iff.mp z with z | z
      · exact .inl (of_decide_eq_true z)
      · exact .inr (of_decide_eq_true z)
  · have z := List.all_eq_true.mp h5 y hy
    have e' : (decide (y.2 = .local) || decide (y.2 = .cell)) = true := by
      rcases e with e | e <;> rw [e] <;> decide
    rw [e'] at z
    rcases Bool.or_eq_true_iff.mp z with z | z
    · cases z
    · rcases Bool.or_eq_true_iff.mp z with z | z
      · exact .inl (by simpa using z)
      · exact .inr fun q => by
          have : N.contains y.1 = true := by simpa using q
          rw [this] at z
          cases z
/-- f(lambda: e) by f's facts -/
theorem de_heardF {X : Cx} {Z : Dx} {errs : List Str} {tsd : Exn → Addr → TSd} {te : TD} {x a : Str} {g c P : Addr} {k n i : Nat} {st : Stmt} {fd : FuncData} {cdv : Value} {Ng : List Str} {T : List (Addr × Str)}
    {params : Arguments} {body : Expr} {scope : Scope} {p lpos pos : Pos} (F : FunC X.K x x st g fd cdv) (bF : Binds X.K fd [a] []) (Sg : FnScope Ng [a] (defScope st)) (hg : Gl X x) (hm : X.mg x = some (.ref g)) (hNg : Ng[0]? = some a) (hva : Vis (defScope st) a) (hT : Z.En.T = T)
    (hG : GivesN X Ng x (defScope st) g cdv (defBody st) a (X.env.qual ++ "<lambda>") (hTT X.K X.mg T errs tsd n i))
    (TB : TabB X.base X.mg c P) (hcode : X.env.code = .ref c) (hmT : (P, X.env.qual ++ "<lambda>") ∈ T) (hu : ∀ p ∈ T, p.1 = P → p.2 = X.env.qual ++ "<lambda>") (hr : Room (k + 2) X.A) (L : LamS X.env.scope scope) (hdef : defaultsOf params X.env = ([], []))
    (hbind : ∀ (q : Str) (cl : List (Str × Addr)) (pm cv ctv : Value), bindArgs (PySem.W.kla_fn "<lambda>" q params body scope cl pm cv ctv) ⟨[], []⟩ = pure [])
    (hbody : ∀ (E : XK) (A : Around) (outer : List Env) (s : Shared) (H : Hp) (f c' : Addr), Room k (A.deeper (lamEnv X scope s.heap.objs.size f c')) → DE (lamN X A outer s H E scope f c') ⟨Z.En, fun cls d _ H => E cls d H⟩ body te)
    (hdb : (x == ("__debug__" : Str)) = false := by decide) (hd : (a == ("__debug__" : Str)) = false := by decide) (hcd : (a == ("__classdict__" : Str)) = false := by decide) :
    DE X Z (.Call (.Name x p) [.Lambda params body scope lpos] [] pos) (dHeard errs tsd n i te) := by
  obtain ⟨oc, od, kV, doc, pm, an, ct, osl, efd, lk, hcg⟩ := F.ex
  subst efd
  exact de_heard hg hm F.kp lk hcg bF Sg hNg hva hT hG TB hcode hmT hu hr L hdef hbind hbody hdb hd hcd
/-- the law's promise at the head's heap -/
theorem law_sp {K : PySem.W.Frag} {mg : Str → Option Value} {tf : List Defn} {M : Addr → List Int → MF} {H : Hp} {a : Addr} {ns : List Int} (hT : ∀ p ∈ tf, H (cT K p).2 = some (.tbl #[])) (hS : SqL K H a (ns.map V.int))
    (hM : M a ns [.pin (.ref a)] (fun r _ => r = .d (.bool true)) no) : spS K mg (TTof K tf) 1 M [.ref a] H (fun v _ => v = .bl true) fun _ _ _ => False := by
  refine ⟨a, ns, rfl, fun b => match H b with
    | some (.tbl _) => none
    | o => o, [.pin (.ref a)], _, no, ?_, fun b o e => ?_, fun b ps e => ?_, fun q hq => ?_, ⟨rfl, fun i c e => ?_, fun i j ci cj b ne e1 _ => ?_⟩, hM, fun r _ G' v _ h _ rr => ?_, fun _ _ _ _ _ _ z => z.elim⟩
  · rcases hS with (h | ⟨o, h⟩) | h
    · exact .inl (.inl (by show (match H a with | some (.tbl _) => none | o => o) = _; rw [h]))
    · exact .inl (.inr ⟨o, by show (match H a with | some (.tbl _) => none | o => o) = _; rw [h]⟩)
    · exact .inr h
  · dsimp only at e
    split at e
    · cases e
    · exact e
  · dsimp only at e
    split at e
    · cases e
    · rename_i h
      exact h ps e
  · obtain ⟨p, hp, rfl⟩ := List.mem_map.mp hq
    exact TabS.nil (hT p hp)
  · cases i with
    | zero =>
      simp at e
      subst e
      exact ⟨_, rfl, rfl⟩
    | succ i => simp at e
  · cases i with
    | zero => simp at e1
    | succ i => simp at e1
  · subst h
    exact (show Rp K G' v (.bool true) from rr).bl_inv
end DL

set_option Elab.async false
set_option linter.all false
set_option maxRecDepth 100000
set_option maxHeartbeats 4000000
/-! The data layer, part 21: readings worked out. -/
namespace DL
open PySem PySem.Spec PyProof.Rows L2

instance {i j : Int} : Decidable (CMulW i j) := inferInstanceAs (Decidable (_ < _))
instance {i j : Int} : Decidable (CPow i j) := inferInstanceAs (Decidable (_ ∧ _ ∧ _))
instance {i j : Int} : Decidable (CDivW i j) := inferInstanceAs (Decidable (_ ∧ _))
theorem and_t {a b : Prop} (h : a) : (a ∧ b) = b := propext (and_iff_right h)
theorem rng10 : rngD 0 10 = [.int 0, .int 1, .int 2, .int 3, .int 4, .int 5, .int 6, .int 7, .int 8, .int 9] := rfl
theorem rng6 : rngD 0 6 = [.int 0, .int 1, .int 2, .int 3, .int 4, .int 5] := rfl
end DL

set_option Elab.async false
set_option linter.all false
set_option maxRecDepth 100000
set_option maxHeartbeats 400000
/-! The data layer, part 22: equality at leaves and empty sequences. -/
namespace DL
open PySem PySem.Spec PyProof.Rows L2

@[simp] theorem opEq_ii (i j : Int) (k) : opEq (.int i) (.int j) k = k (.bool (decide (i = j))) := by
  have hd : min (PyData.int i).depth (PyData.int j).depth ≤ 64 := by simp [PyData.depth]
  have : (i == j) = decide (i = j) := by by_cases h : i = j <;> simp [h]
  simp [opEq, hd, PyData.eqv, this]
@[simp] theorem opNe_ii (i j : Int) (k) : opNe (.int i) (.int j) k = k (.bool (!decide (i = j))) := by
  have hd : min (PyData.int i).depth (PyData.int j).depth ≤ 64 := by simp [PyData.depth]
  have : (i == j) = decide (i = j) := by by_cases h : i = j <;> simp [h]
  simp [opNe, hd, PyData.eqv, this]
theorem str_beq (i j : Str) : (i == j) = decide (i = j) := by by_cases h : i = j <;> simp [h]
@[simp] theorem opEq_ss (i j : Str) (k) : opEq (.str i) (.str j) k = k (.bool (decide (i = j))) := by
  have hd : min (PyData.str i).depth (PyData.str j).depth ≤ 64 := by simp [PyData.depth]
  simp [opEq, hd, PyData.eqv, str_beq]
@[simp] theorem opNe_ss (i j : Str) (k) : opNe (.str i) (.str j) k = k (.bool (!decide (i = j))) := by
  have hd : min (PyData.str i).depth (PyData.str j).depth ≤ 64 := by simp [PyData.depth]
  simp [opNe, hd, PyData.eqv, str_beq]
@[simp] theorem opEq_l0 (xs : List PD) (k) : opEq (.list xs) (.list []) k = k (.bool xs.isEmpty) := by
  have hd : min (PyData.list xs).depth (PyData.list []).depth ≤ 64 := by simp [PyData.depth, PyData.depthAll]
  cases xs <;> simp_all [opEq, PyData.eqv, PyData.eqvAll]
@[simp] theorem opNe_l0 (xs : List PD) (k) : opNe (.list xs) (.list []) k = k (.bool (!xs.isEmpty)) := by
  have hd : min (PyData.list xs).depth (PyData.list []).depth ≤ 64 := by simp [PyData.depth, PyData.depthAll]
  cases xs <;> simp_all [opNe, PyData.eqv, PyData.eqvAll]
@[simp] theorem opEq_t0 (xs : List PD) (k) : opEq (.tuple xs) (.tuple []) k = k (.bool xs.isEmpty) := by
  have hd : min (PyData.tuple xs).depth (PyData.tuple []).depth ≤ 64 := by simp [PyData.depth, PyData.depthAll]
  cases xs <;> simp_all [opEq, PyData.eqv, PyData.eqvAll]
@[simp] theorem opNe_t0 (xs : List PD) (k) : opNe (.tuple xs) (.tuple []) k = k (.bool (!xs.isEmpty)) := by
  have hd : min (PyData.tuple xs).depth (PyData.tuple []).depth ≤ 64 := by simp [PyData.depth, PyData.depthAll]
  cases xs <;> simp_all [opNe, PyData.eqv, PyData.eqvAll]

/-! ### indices -/
theorem atI_nat {α : Type} (xs : List α) (i : Nat) : atI xs (i : Int) = xs[i]? := by
  unfold atI ixN
  rw [if_pos (by omega)]
  by_cases h : (i : Int) < xs.length
  · rw [if_pos h]
    rfl
  · rw [if_neg h]
    exact (List.getElem?_eq_none (by omega)).symm
theorem atI_pos {α : Type} (xs : List α) {i : Int} (h : 0 ≤ i) : atI xs i = xs[i.toNat]? := by
  rw [← atI_nat, Int.toNat_of_nonneg h]
theorem atI_in {α : Type} {xs : List α} {i : Int} (h : 0 ≤ i) (h2 : i < xs.length) : ∃ x ∈ xs, atI xs i = some x ∧ xs[i.toNat]? = some x := by
  have hl : i.toNat < xs.length := by omega
  exact ⟨xs[i.toNat], List.getElem_mem hl, by rw [atI_pos xs h, List.getElem?_eq_getElem hl], List.getElem?_eq_getElem hl⟩
@[simp] theorem atI_c0 {α : Type} (x : α) (r : List α) : atI (x :: r) 0 = some x := by rw [atI_pos _ (by decide)]; rfl
@[simp] theorem atI_c1 {α : Type} (x y : α) (r : List α) : atI (x :: y :: r) 1 = some y := by rw [atI_pos _ (by decide)]; rfl
@[simp] theorem atI_c2 {α : Type} (x y z : α) (r : List α) : atI (x :: y :: z :: r) 2 = some z := by rw [atI_pos _ (by decide)]; rfl
@[simp] theorem ixN_3_0 : ixN 3 0 = some 0 := rfl
@[simp] theorem ixN_3_1 : ixN 3 1 = some 1 := rfl
@[simp] theorem ixN_3_2 : ixN 3 2 = some 2 := rfl
theorem rng_mem {n : Nat} {x : PD} (h : x ∈ rngD 0 n) : ∃ k : Nat, k < n ∧ x = .int (k : Int) := by
  unfold rngD at h
  obtain ⟨k, hk, rfl⟩ := List.mem_map.mp h
  exact ⟨k, List.mem_range.mp hk, by simp⟩
theorem cmw {a b : Nat} {i j : Int} (h1 : i.natAbs < 2 ^ a) (h2 : j.natAbs < 2 ^ b) (h : a + b < 1000000) : CMulW i j := by
  have lg : ∀ (n m : Nat), n < 2 ^ m → n.log2 ≤ m := fun n m h => by
    by_cases e : n = 0
    · subst e; simp
    · exact Nat.le_of_lt ((Nat.log2_lt e).mpr h)
  have := lg _ _ h1
  have := lg _ _ h2
  show _ + _ < _
  omega

/-! ### comprehensions -/
theorem set_get {Γ : SS} {i : Nat} {s : SC} (h : Γ[i]? = some s) : Γ.set i s = Γ := by
  apply List.ext_getElem?
  intro j
  by_cases e : i = j
  · subst e
    rw [List.getElem?_set_self (List.getElem?_eq_some_iff.mp h).1, h]
  · rw [List.getElem?_set_ne e]
theorem lcL_nm {i : Nat} {tt : TTd} {te : TD} {P : OC → SS → Prop} (Γ0 : SS) (b : PD → Bool) (f : PD → PD) : ∀ (xs acc : List PD) (Γ : SS), (∀ y, Γ.set i y = Γ0.set i y) → (∀ x ∈ xs, ∀ P : Bool → SS → Prop, tt (Γ0.set i (.d x)) P no = P (b x) (Γ0.set i (.d x))) → (∀ x ∈ xs, b x = true → ∀ P : PD → SS → Prop, te (Γ0.set i (.d x)) P no = P (f x) (Γ0.set i (.d x))) →
    oLcL (gNm i) tt te [i] Γ0 xs acc Γ P = P (.lst (acc ++ (xs.filter b).map f)) (Γ0.set i (keepD Γ0[i]?))
  | [], acc, Γ, hΓ, _, _ => by simp [oLcL, hΓ]
  | x :: r, acc, Γ, hΓ, ht, he => by
    have h1 : (wipeD Γ [i]).set i (.d x) = Γ0.set i (.d x) := by simp [hΓ]
    have hs : ∀ y, (Γ0.set i (.d x)).set i y = Γ0.set i y := fun y => by simp
    show tt ((wipeD Γ [i]).set i (.d x)) _ no = _
    rw [h1, ht x (.head _)]
    cases hb : b x
    · rw [if_neg (by simp)]
      rw [lcL_nm Γ0 b f r acc _ hs (fun y hy => ht y (.tail _ hy)) (fun y hy => he y (.tail _ hy))]
      simp [hb]
    · rw [if_pos rfl, he x (.head _) hb]
      rw [lcL_nm Γ0 b f r _ _ hs (fun y hy => ht y (.tail _ hy)) (fun y hy => he y (.tail _ hy))]
      simp [hb]
end DL

set_option Elab.async false
set_option linter.all false
set_option maxRecDepth 100000
set_option maxHeartbeats 400000
set_option exponentiation.threshold 2000
/-! The data layer, part 23: the jar of the laws, in general. -/
namespace DL
open PySem PySem.Spec PyProof.Rows L2
def gPoolB (ad : Addr) (ns : List Int) : TSd := (sSeq (sSet 4 (dL fInt (dCons (dL fMax (dCons (dPinIx 0 ad ns (dVar 3)) (dCons (d2 opSub (d1 opNeg (dC (.int 1))) (dPinIx 0 ad ns (dVar 3))) dNil))) dNil))) (sSeq (sSet 2 (d2 opMod (dL fInt (dCons (d2 opAdd (d2 opAdd (d2 opMul (dVar 2) (dC (.int 48271))) (d2 opMod (dVar 4) (dC (.int 2147483629)))) (dC (.int 11))) dNil)) (dC (.int 2147483647)))) (sSet 1 (dIf (dAnd (dTst (d2 opGe (dVar 4) (d2 opPow (dC (.int 10)) (dC (.int 12))))) (dTst (d2 opLt (dVar 1) (d2 opPow (dC (.int 10)) (dC (.int 60)))))) (dL fInt (dCons (d2 opAdd (d2 opMul (dVar 1) (d2 opPow (dC (.int 10)) (dC (.int 60)))) (d2 opMod (dVar 4) (d2 opPow (dC (.int 10)) (dC (.int 60))))) dNil)) (dVar 1)))))
def gPool (ad : Addr) (ns : List Int) : TSd := (sSeq (sAsg (dTup (dCons (dC (.int 0)) (dCons (dC (.int 7)) dNil))) (gTp 2 (gCo (gNm 1) (gCo (gNm 2) gNi)))) (sSeq (sFor (iR1 (dPinLen 0 ad ns)) (gNm 3) (gPoolB ad ns)) (sRetO (dLst (dCons (dVar 1) (dCons (dVar 2) (dCons (dC (.int 0)) dNil)))))))
def gTake : TSd := (sSeq (sIf (dTst (d2 opGt (dIxL 0 (dC (.int 0))) (dC (.int 0)))) (sSeq (sSet 2 (d2 opMod (dL fInt (dCons (dIxL 0 (dC (.int 0))) dNil)) (dVar 1))) (sSeq (sPut 0 (dC (.int 0)) (d2 opFdiv (dIxL 0 (dC (.int 0))) (dVar 1))) (sRet (dVar 2)))) sNext) (sSeq (sPut 0 (dC (.int 2)) (d2 opAdd (dIxL 0 (dC (.int 2))) (dC (.int 1)))) (sSeq (sPut 0 (dC (.int 1)) (d2 opMod (dL fInt (dCons (d2 opAdd (d2 opAdd (d2 opMul (dIxL 0 (dC (.int 1))) (dC (.int 39373))) (d2 opMul (dC (.int 7919)) (dIxL 0 (dC (.int 2))))) (dC (.int 7))) dNil)) (dC (.int 2147483647)))) (sRet (d2 opMod (dL fInt (dCons (d2 opFdiv (d2 opMod (dL fInt (dCons (d2 opMul (dIxL 0 (dC (.int 1))) (dIxL 0 (dC (.int 1)))) dNil)) (dC (.int 2147483629))) (dC (.int 32))) dNil)) (dVar 1))))))
def mTake : MF := mOf gTake 2 3
def gOne : TSd := (sRet (d2 opIx (dVar 1) (dCall 2 mTake (daSo 0 (daD (dL fLen (dCons (dVar 1) dNil)) daNil)))))
def mOne : MF := mOf gOne 2 2
/-- a jar from which t more may be taken -/
def Jar (t : Nat) (xs : List PD) : Prop := ∃ g s c : Int, xs = [.int g, .int s, .int c] ∧ 0 ≤ g ∧ g < 10 ^ 120 ∧ 0 ≤ s ∧ s < 2147483647 ∧ 0 ≤ c ∧ c + t ≤ 1000000000000
theorem Jar.le {t u : Nat} {xs : List PD} (h : Jar t xs) (hu : u ≤ t) : Jar u xs := by
  obtain ⟨g, s, c, h1, h2, h3, h4, h5, h6, h7⟩ := h
  exact ⟨g, s, c, h1, h2, h3, h4, h5, h6, by omega⟩
theorem take_sp {b : Nat} {xs : List PD} {n : Int} {P E} (hj : Jar (b + 1) xs) (hn : 0 < n) (hn2 : n < 2 ^ 64) (h : ∀ k ys, 0 ≤ k → k < n → Jar b ys → P (.d (.int k)) [.io (.lst ys), .d (.int n)]) : mTake [.io (.lst xs), .d (.int n)] P E := by
  obtain ⟨g, s, c, rfl, h2, h3, h4, h5, h6, h7⟩ := hj
  have hd : CDivW g n := ⟨hn, by
    have e : n.natAbs ≠ 0 := by omega
    exact Nat.lt_trans ((Nat.log2_lt e).mpr (show n.natAbs < 2 ^ 64 by omega)) (by decide)⟩
  by_cases hg : 0 < g
  · have hk : Jar b [.int (g / n), .int s, .int c] := ⟨_, _, _, rfl, Int.ediv_nonneg h2 (by omega), Int.lt_of_le_of_lt (Int.ediv_le_self _ h2) h3, h4, h5, h6, by omega⟩
    have q := h (g % n) _ (Int.emod_nonneg _ (by omega)) (Int.emod_lt_of_pos _ hn) hk
    simp [mTake, gTake, hg, hn, hd]
    exact q
  · have m1 : CMulW s 39373 := cmw (a := 31) (b := 16) (by omega) (by decide) (by decide)
    have m2 : CMulW 7919 (c + 1) := cmw (a := 13) (b := 41) (by decide) (by omega) (by decide)
    have hs : 0 ≤ (s * 39373 + 7919 * (c + 1) + 7) % 2147483647 ∧ (s * 39373 + 7919 * (c + 1) + 7) % 2147483647 < 2147483647 := ⟨Int.emod_nonneg _ (by decide), Int.emod_lt_of_pos _ (by decide)⟩
    generalize es : (s * 39373 + 7919 * (c + 1) + 7) % 2147483647 = s' at hs
    have m3 : CMulW s' s' := cmw (a := 31) (b := 31) (by omega) (by omega) (by decide)
    have hk : Jar b [.int g, .int s', .int (c + 1)] := ⟨_, _, _, rfl, h2, h3, hs.1, hs.2, by omega, by omega⟩
    have hd2 : CDivW (s' * s' % 2147483629) 32 := ⟨by decide, by decide⟩
    have q := h (s' * s' % 2147483629 / 32 % n) _ (Int.emod_nonneg _ (by omega)) (Int.emod_lt_of_pos _ hn) hk
    simp [mTake, gTake, hg, hn, m1, m2, es, m3, hd2]
    exact q
theorem one_sp {b : Nat} {xs ds : List PD} {P : Res → SS → Prop} {E : Exn → SS → Prop} (hj : Jar (b + 1) xs) (hn : 0 < ds.length) (hn2 : ds.length < 2 ^ 64) (h : ∀ x ∈ ds, ∀ ys, Jar b ys → P (.d x) [.io (.lst ys), .d (.list ds)]) : mOne [.io (.lst xs), .d (.list ds)] P E := by
  simp [mOne, gOne]
  refine take_sp (n := (ds.length : Int)) hj (Int.natCast_pos.mpr hn) (by omega) ?_
  intro k ys h1 h2 hy
  obtain ⟨x, hx, e, _⟩ := atI_in (xs := ds) h1 h2
  simp [e]
  exact h x hx ys hy
theorem pool_body {ad : Addr} {ns : List Int} {D : EndsD} {k : Nat} (hk : k < ns.length) {g s : Int} {b : SC} (h1 : 0 ≤ g) (h2 : g < 10 ^ 120) (h3 : 0 ≤ s) (h4 : s < 2147483647)
    (hN : ∀ (g s : Int) (a b : SC), 0 ≤ g → g < 10 ^ 120 → 0 ≤ s → s < 2147483647 → D.nx [.pin (.ref ad), .d (.int g), .d (.int s), a, b]) : gPoolB ad ns D [.pin (.ref ad), .d (.int g), .d (.int s), .d (.int (k : Int)), b] := by
  have e : atI ns (k : Int) = some ns[k] := by rw [atI_nat, List.getElem?_eq_getElem hk]
  simp [gPoolB, e]
  generalize hc : (if ns[k] < -1 - ns[k] then -1 - ns[k] else ns[k]) = c
  have hc0 : 0 ≤ c := by
    rw [← hc]
    split <;> omega
  have m1 : CMulW s 48271 := cmw (a := 31) (b := 16) (by omega) (by decide) (by decide)
  have p12 : CPow 10 12 := by decide
  have p60 : CPow 10 60 := by decide
  have hs : 0 ≤ (s * 48271 + c % 2147483629 + 11) % 2147483647 ∧ (s * 48271 + c % 2147483629 + 11) % 2147483647 < 2147483647 := ⟨Int.emod_nonneg _ (by decide), Int.emod_lt_of_pos _ (by decide)⟩
  generalize es : (s * 48271 + c % 2147483629 + 11) % 2147483647 = s' at hs ⊢
  refine ⟨m1, p12, ?_⟩
  by_cases hb : 1000000000000 ≤ c
  · by_cases hg : g < 1000000000000000000000000000000000000000000000000000000000000
    · have m2 : CMulW g 1000000000000000000000000000000000000000000000000000000000000 := cmw (a := 200) (b := 200) (by omega) (by decide) (by decide)
      have hq := Int.emod_lt_of_pos c (show (0 : Int) < 1000000000000000000000000000000000000000000000000000000000000 by decide)
      have hq0 := Int.emod_nonneg c (show (1000000000000000000000000000000000000000000000000000000000000 : Int) ≠ 0 by decide)
      simp [hb, hg, p60, m2]
      exact hN _ _ _ _ (by omega) (by omega) hs.1 hs.2
    · simp [hb, hg, p60]
      exact hN _ _ _ _ h1 h2 hs.1 hs.2
  · simp [hb]
    exact hN _ _ _ _ h1 h2 hs.1 hs.2
theorem pool_go {ad : Addr} {ns : List Int} {D : EndsD}
    (hN : ∀ (g s : Int) (a b : SC), 0 ≤ g → g < 10 ^ 120 → 0 ≤ s → s < 2147483647 → D.nx [.pin (.ref ad), .d (.int g), .d (.int s), a, b]) : ∀ (l : List PD), (∀ x ∈ l, ∃ k : Nat, k < ns.length ∧ x = .int (k : Int)) → ∀ (g s : Int) (a b : SC), 0 ≤ g → g < 10 ^ 120 → 0 ≤ s → s < 2147483647 → sForL (gNm 3) (gPoolB ad ns) l D [.pin (.ref ad), .d (.int g), .d (.int s), a, b]
  | [], _, g, s, a, b, h1, h2, h3, h4 => hN g s a b h1 h2 h3 h4
  | x :: r, hx, g, s, a, b, h1, h2, h3, h4 => by
    obtain ⟨k, hk, rfl⟩ := hx _ (.head _)
    exact pool_body hk h1 h2 h3 h4 fun g s a b h1 h2 h3 h4 => pool_go hN r (fun y hy => hx y (.tail _ hy)) g s a b h1 h2 h3 h4
theorem pool_sp {ad : Addr} {ns : List Int} {P E} (hl : ns.length ≤ 1000) (h : ∀ ys, Jar 100000000 ys → P (.o (.lst ys)) [.pin (.ref ad)]) : mOf (gPool ad ns) 1 5 [.pin (.ref ad)] P E := by
  simp [gPool]
  refine ⟨by decide, by omega, ?_⟩
  refine pool_go (fun g s a b h1 h2 h3 h4 => ?_) _ (fun x hx => rng_mem hx) 0 7 _ _ (by decide) (by decide) (by decide) (by decide)
  simp
  exact ⟨by decide, h _ ⟨_, _, _, rfl, h1, h2, h3, h4, by decide, by decide⟩⟩
end DL

set_option Elab.async false
set_option linter.all false
set_option maxRecDepth 100000
set_option maxHeartbeats 400000
/-! The data layer, part 24: what a function tells. -/
namespace DL
open PySem PySem.Spec PyProof.Rows L2
abbrev Out := Except Exn PD
@[simp] def oP (o : Out) (Γ : SS) (P : Res → SS → Prop) (E : Exn → SS → Prop) : Prop := match o with
  | .ok d => P (.d d) Γ
  | .error x => E x Γ
@[simp] def heardD : Out → PD
  | .ok d => .tuple [.str "told", d]
  | .error x => .tuple [.str x.cls, x.what]
/-- the ints at a place of a tuple -/
def atD (x : PD) (k : Nat) : Int := match x with
  | .tuple xs => (match xs[k]? with
    | some (.int i) => i
    | _ => 0)
  | _ => 0
/-- a tuple of n ints from 0 to top -/
def RowD (n : Nat) (top : Int) (x : PD) : Prop := ∃ as : List Int, x = .tuple (as.map .int) ∧ as.length = n ∧ ∀ a ∈ as, 0 ≤ a ∧ a ≤ top
theorem RowD.at {n : Nat} {top : Int} {x : PD} (h : RowD n top x) {k : Nat} (hk : k < n) : 0 ≤ atD x k ∧ atD x k ≤ top := by
  obtain ⟨as, rfl, hl, hb⟩ := h
  have hk2 : k < as.length := by omega
  simp [atD, hk2]
  exact hb _ (List.getElem_mem hk2)
theorem RowD.ix {n : Nat} {top : Int} {x : PD} (h : RowD n top x) {k : Nat} (hk : k < n) (q : PD → Prop) : opIx x (.int (k : Int)) q = q (.int (atD x k)) := by
  obtain ⟨as, rfl, hl, hb⟩ := h
  have hk2 : k < as.length := by omega
  simp [atD, hk2, atI_nat]
theorem RowD.isInt {n : Nat} {top : Int} {x : PD} (h : RowD n top x) : ∃ xs, x = .tuple xs ∧ xs.length = n := by
  obtain ⟨as, rfl, hl, hb⟩ := h
  exact ⟨_, rfl, by simpa using hl⟩
/-- data of small lists, not deep, with no dict -/
def okD : Nat → PD → Bool
  | 0, _ => false
  | _ + 1, .none => true
  | _ + 1, .bool _ => true
  | _ + 1, .int _ => true
  | _ + 1, .str _ => true
  | n + 1, .list xs => decide (xs.length ≤ 1000) && xs.all (okD n)
  | n + 1, .tuple xs => decide (xs.length ≤ 1000) && xs.all (okD n)
  | _ + 1, .dict _ => false
theorem okD_up : ∀ {n : Nat} {x : PD}, okD n x = true → okD (n + 1) x = true
  | 0, _, h => by simp [okD] at h
  | n + 1, .none, h => rfl
  | n + 1, .bool _, h => rfl
  | n + 1, .int _, h => rfl
  | n + 1, .str _, h => rfl
  | n + 1, .list xs, h => by
    simp [okD] at h ⊢
    exact ⟨h.1, fun x hx => okD_up (h.2 x hx)⟩
  | n + 1, .tuple xs, h => by
    simp [okD] at h ⊢
    exact ⟨h.1, fun x hx => okD_up (h.2 x hx)⟩
  | n + 1, .dict _, h => by simp [okD] at h
theorem okD_le {n m : Nat} {x : PD} (h : okD n x = true) (hm : n ≤ m) : okD m x = true := by
  induction hm with
  | refl => exact h
  | step _ ih => exact okD_up ih
theorem RowD.okD {n m : Nat} {top : Int} {x : PD} (h : RowD n top x) (hn : n ≤ 1000) : okD (m + 2) x = true := by
  obtain ⟨as, rfl, hl, hb⟩ := h
  have e1 : as.length ≤ 1000 := by omega
  simp [DL.okD, e1]
theorem atD_map {as : List Int} {k : Nat} (h : k < as.length) : atD (.tuple (as.map .int)) k = as[k] := by
  simp [atD, h]
theorem atI_ints {as : List Int} {k : Nat} (h : k < as.length) : atI (as.map PyData.int) (k : Int) = some (.int as[k]) := by
  simp [atI_nat, h]
/-- a place in a range -/
def natD : PD → Nat
  | .int k => k.toNat
  | _ => 0
@[simp] theorem natD_nat (k : Nat) : natD (.int (k : Int)) = k := by simp [natD]
/-- an answer, and what then -/
@[simp] def oThen (o : Out) (f : PD → Out) : Out := match o with
  | .ok d => f d
  | .error x => .error x
/-- one statement of a suite -/
theorem seq_i {a b : TSd} {D : EndsD} {Γ Γ' : SS} (h : ∀ K : SS → Prop, K Γ' → a { D with nx := K } Γ) (h2 : b D Γ') : sSeq a b D Γ := h _ h2
/-- one statement, what follows told by a property of the slots -/
theorem seq_p {a b : TSd} {D : EndsD} {Γ : SS} (Q : SS → Prop) (h : ∀ K : SS → Prop, (∀ Γ', Q Γ' → K Γ') → a { D with nx := K } Γ) (h2 : ∀ Γ', Q Γ' → b D Γ') : sSeq a b D Γ := h _ h2
/-- a for, by its list; one turn of it -/
theorem for_i {ti : TLd} {g : TGd} {B : TSd} {D : EndsD} {Γ Γ1 : SS} {xs : List PD} (h : ∀ K : List PD → SS → Prop, K xs Γ1 → ti Γ K D.ex) (h2 : sForL g B xs D Γ1) : sFor ti g B D Γ := h _ h2
theorem for_cons {g : TGd} {B : TSd} {D : EndsD} {Γ Γ' : SS} {x : PD} {r : List PD} (h : ∀ K : EndsD, K.nx Γ' → K.ct Γ' → K.rt = D.rt → K.ex = D.ex → g x Γ fun Γ1 => B K Γ1) (h2 : sForL g B r D Γ') : sForL g B (x :: r) D Γ := h _ h2 h2 rfl rfl
theorem RowD.notLen {n : Nat} {top : Int} {xs : List PD} (h : xs.length ≠ n) : ¬ RowD n top (.tuple xs) := fun ⟨as, e, hl, _⟩ => by
  cases e
  simp at h
  exact h hl
theorem RowD.notMem {n : Nat} {top : Int} {xs : List PD} {y : PD} (h : y ∈ xs) (hy : ∀ z, y = .int z → 0 ≤ z → z ≤ top → False) : ¬ RowD n top (.tuple xs) := fun ⟨as, e, hl, hb⟩ => by
  cases e
  obtain ⟨z, hz, rfl⟩ := List.mem_map.mp h
  exact hy z rfl (hb z hz).1 (hb z hz).2
end DL

set_option Elab.async false
set_option linter.all false
set_option maxRecDepth 100000
set_option maxHeartbeats 4000000
/-! The data layer, part 25: xs.pop(i), list(range(..)). -/
namespace DL
open PySem PySem.Spec PyProof.Rows L2

theorem Rps.erase {K : PySem.W.Frag} {G : Hp} : ∀ (i : Nat) {vs : List V} {ds : List PD}, Rps K G vs ds → Rps K G (vs.eraseIdx i) (ds.eraseIdx i)
  | _, _, _, .nil => .nil
  | 0, _, _, .cons h t => t
  | n + 1, _, _, .cons h t => .cons h (Rps.erase n t)
section
variable {X : Cx} {Z : Dx} {e e2 o : Expr} {te tb ti : TD} {i : Nat} {apos pos p p2 pos2 cpos : Pos}
@[simp] def dPopA (i : Nat) (t : TD) : TD := fun Γ P E => (getL Γ i).isSome = true ∧ t Γ (fun d Γ1 => match getL Γ1 i, d with
  | some xs, .int j => -(2 ^ 63) ≤ j ∧ j < 2 ^ 63 ∧ (match ixN xs.length j with
    | some m => (match xs[m]? with
      | some v => P v (putL Γ1 i (xs.eraseIdx m))
      | none => False)
    | none => False)
  | _, _ => False) E
theorem de_popA (ho : PE X o (tVar i)) (he : DE X Z e te) (hbase : attributeBase o "pop" X.env (eval o X.env) = eval o X.env := by rfl)
    (hfew : ((backTo cpos (starEach [e] X.env)).all (fun x => !x.1) && (backToKw cpos (keywordEach [] X.env)).all (fun x => x.1.isSome)
      && decide ([e].length + ([] : List Keyword).length + (if ([] : List Keyword).isEmpty then 0 else 1) < 30)) = true := by rfl)
    (hline : (apos.endLine == cpos.line) = true := by rfl) (hs : starEach [e] X.env = (false, eval e X.env) :: starEach [] X.env := by rfl) (hplain : (backTo cpos (starEach [] X.env)).any (·.1) = false := by rfl) :
    DE X Z (.Call (.Attribute o "pop" apos) [e] [] cpos) (dPopA i te) := by
  refine ⟨PE.imp (pe_bm PySem.F.plainAttrs_list PySem.F.slot_list_pop PySem.F.type_list_pop mt_popAt ho (pa_cons he.pe pa_nil hs) hbase hfew hline hs hplain) fun σ H Q hh => ?_⟩
  obtain ⟨Γ, G, P, E, r, ⟨h0, t⟩, k, x⟩ := hh
  obtain ⟨xs0, e0⟩ := someL h0
  obtain ⟨a, vs0, ea, h1, _, _, _⟩ := r.objL e0
  refine ⟨.ref a, ea, .inl ⟨rfl, vs0, .inl (.inl h1)⟩, Γ, G, _, E, r, t, fun d Γ1 G1 v1 H1 q1 r1 s1 p1 => ?_, x⟩
  cases e1 : getL Γ1 i with
  | none => rw [e1] at q1; exact q1.elim
  | some xs =>
    rw [e1] at q1
    cases d with
    | int j =>
      dsimp only at q1
      obtain ⟨j1, j2, q1⟩ := q1
      cases e2 : ixN xs.length j with
      | none => rw [e2] at q1; exact q1.elim
      | some m =>
        rw [e2] at q1
        dsimp only at q1
        cases e3 : xs[m]? with
        | none => rw [e3] at q1; exact q1.elim
        | some z =>
          rw [e3] at q1
          obtain ⟨a', vs, ea', g1, g2, g3, g4⟩ := r1.objL e1
          rw [ea] at ea'
          cases ea'
          obtain ⟨y, f1, f2⟩ := g2.getD e3
          obtain ⟨r2, s2⟩ := r1.putL e1 ea (g2.erase m) (by rw [List.length_eraseIdx]; split <;> omega)
          rw [p1.int_inv]
          exact ⟨a, vs, j, m, y, rfl, rfl, g1, j1, j2, by rw [g2.length]; exact (ixN_seq e2).1, f1, k _ _ _ _ _ q1 r2 (s1.trans s2) f2⟩
    | _ => exact q1.elim
/-- list(range(n)), list(range(a, b)) -/
theorem rg_rps {K : PySem.W.Frag} {G : Hp} (a : Int) : ∀ l : List Nat, Rps K G (l.map fun i => V.int (a + (i : Nat))) (l.map fun i : Nat => PyData.int (a + (i : Int)))
  | [] => .nil
  | _ :: r => .cons (.int _) (rg_rps a r)
theorem rg_rps' {K : PySem.W.Frag} {G : Hp} {a b : Int} : Rps K G (rgV a b) (rngD a (b - a).toNat) := rg_rps a _
@[simp] def oLstR1 (t : TD) : TOd := fun Γ P E => t Γ (fun d Γ1 => match d with
  | .int n => -(2 ^ 62) ≤ n ∧ n ≤ 16777216 ∧ P (.lst (rngD 0 n.toNat)) Γ1
  | _ => False) E
@[simp] def oLstR2 (t u : TD) : TOd := fun Γ P E => t Γ (fun d Γ1 => u Γ1 (fun e Γ2 => match d, e with
  | .int a, .int b => (-(2 ^ 62) ≤ a ∧ a < 2 ^ 62 ∧ -(2 ^ 62) ≤ b ∧ b < 2 ^ 62) ∧ b - a ≤ 16777216 ∧ P (.lst (rngD a (b - a).toNat)) Γ2
  | _, _ => False) E) E
theorem do_listR1 (hc : X.calm = true) (hgl : Gl X "list") (hml : X.mg "list" = none) (hg : Gl X "range") (hm : X.mg "range" = none) (he : DE X Z e te) (na : starEach [e] X.env = (false, eval e X.env) :: starEach [] X.env := by rfl)
    (hs : starEach [.Call (.Name "range" p2) [e] [] pos2] X.env = (false, eval (.Call (.Name "range" p2) [e] [] pos2) X.env) :: starEach [] X.env := by rfl) : DO X Z (.Call (.Name "list" p) [.Call (.Name "range" p2) [e] [] pos2] [] pos) (oLstR1 te) := by
  refine ⟨PE.imp (pe_listRg hc hgl hml (prg_1 hg hm he.pe na) hs) fun σ H Q hh => ?_⟩
  obtain ⟨Γ, G, P, E, r, t, k, x⟩ := hh
  refine ⟨Γ, G, _, E, r, t, fun d Γ1 G1 v1 H1 q1 r1 s1 p1 => ?_, x⟩
  cases d with
  | int n =>
    obtain ⟨h1, h2, q⟩ := q1
    rw [p1.int_inv]
    refine ⟨n, rfl, ⟨by omega, by omega, by omega, by omega, by omega⟩, fun l hl => ?_⟩
    have rp : Rps X.K G1 (rgV 0 n) (rngD 0 n.toNat) := by
      have := rg_rps' (K := X.K) (G := G1) (a := 0) (b := n)
      rwa [Int.sub_zero] at this
    exact k _ Γ1 G1 l _ q (r1.fresh hl) (s1.trans (.grow (Grow.fresh r1.sub r1.ntb hl))) (OwnAt.new r1 hl (.lst rp (by rw [rngD_len, sizeLine_eq]; omega))) (none_back s1 hl)
  | _ => exact q1.elim
theorem do_listR2 (hc : X.calm = true) (hgl : Gl X "list") (hml : X.mg "list" = none) (hg : Gl X "range") (hm : X.mg "range" = none) (he : DE X Z e te) (he2 : DE X Z e2 tb) (na : starEach [e, e2] X.env = (false, eval e X.env) :: starEach [e2] X.env := by rfl) (nb : starEach [e2] X.env = (false, eval e2 X.env) :: starEach [] X.env := by rfl)
    (hpl : (backTo pos2 (starEach [e2] X.env)).any (·.1) = false := by rfl)
    (hs : starEach [.Call (.Name "range" p2) [e, e2] [] pos2] X.env = (false, eval (.Call (.Name "range" p2) [e, e2] [] pos2) X.env) :: starEach [] X.env := by rfl) : DO X Z (.Call (.Name "list" p) [.Call (.Name "range" p2) [e, e2] [] pos2] [] pos) (oLstR2 te tb) := by
  refine ⟨PE.imp (pe_listRg hc hgl hml (prg_2 hg hm he.pe he2.pe na nb hpl) hs) fun σ H Q hh => ?_⟩
  obtain ⟨Γ, G, P, E, r, t, k, x⟩ := hh
  refine ⟨Γ, G, _, E, r, t, fun d Γ1 G1 v1 H1 q1 r1 s1 p1 => ⟨Γ1, G1, _, E, r1, q1, fun d2 Γ2 G2 v2 H2 q2 r2 s2 p2 => ?_, x.up s1⟩, x⟩
  cases d with
  | int a =>
    cases d2 with
    | int b =>
      obtain ⟨⟨h1, h1b, h1c, h1d⟩, h2, q⟩ := q2
      rw [p1.int_inv, p2.int_inv]
      exact ⟨a, b, rfl, rfl, ⟨h1, h1b, h1c, h1d, by omega⟩, fun l hl => k _ Γ2 G2 l _ q (r2.fresh hl) ((s1.trans s2).trans (.grow (Grow.fresh r2.sub r2.ntb hl))) (OwnAt.new r2 hl (.lst rg_rps' (by rw [rngD_len, sizeLine_eq]; omega))) (none_back (s1.trans s2) hl)⟩
    | _ => exact q2.elim
  | _ => exact q2.elim
end
theorem RRels.keep {K : PySem.W.Frag} {En : Ent} {Γ : SS} {G : Hp} {σ : L2.St} {H H' : Hp} {vs : List V} {rs : List Res} (v : Adv Γ σ G H Γ σ G H') (h : RRels K En Γ G σ H vs rs) : RRels K En Γ G σ H' vs rs := by
  induction h with
  | nil => exact .nil
  | consD h t ih => exact .consD h ih
  | consO h n t ih => exact .consO (h.adv v) n ih
/-- a, b = x, y by way of a tuple: some target is a cell -/
theorem ds_mix2 {X : Cx} {Z : Dx} {i j : Nat} {pos : Pos} {x y : Str} {a b : Expr} {t : TRd} {px py pt : Pos} {kt k2 : Nat} {pt2 : Pos} (hc : X.calm = true) (hN : X.N.Nodup) (hi : X.N[i]? = some x) (hj : X.N[j]? = some y)
    (ha : DR X Z [a, b] t) (hx : Loc X.env.scope x := by first | exact .inl rfl | exact .inr rfl) (hy : Loc X.env.scope y := by first | exact .inl rfl | exact .inr rfl)
    (hw : swappedStores [.Tuple [.Name x px, .Name y py] kt pt] (.Tuple [a, b] k2 pt2) X.env = pure none := by rfl)
    (hs : swapsWithSole [.Tuple [.Name x px, .Name y py] kt pt] (.Tuple [a, b] k2 pt2) pos.line X.env = pure false := by rfl)
    (h1 : (assignEach [.Tuple [.Name x px, .Name y py] kt pt] X.env).map (·.2) = [assign (.Tuple [.Name x px, .Name y py] kt pt) X.env] := by rfl)
    (e1 : (assignEach [.Name x px, .Name y py] X.env).map (·.2) = assign (.Name x px) X.env :: (assignEach [.Name y py] X.env).map (·.2) := by rfl)
    (e2 : (assignEach [.Name y py] X.env).map (·.2) = assign (.Name y py) X.env :: (assignEach [] X.env).map (·.2) := by rfl)
    (hn : (assignEach [.Name x px, .Name y py] X.env).length = 2 := by rfl) (hst : (assignEach [.Name x px, .Name y py] X.env).findIdx? (·.1) = none := by rfl)
    (fx : X.fn x = true ∨ X.env.scope.names.lookup x = some .local := by first | exact .inl rfl | exact .inr rfl) (fy : X.fn y = true ∨ X.env.scope.names.lookup y = some .local := by first | exact .inl rfl | exact .inr rfl) :
    DS X Z (.Assign [.Tuple [.Name x px, .Name y py] kt pt] (.Tuple [a, b] k2 pt2) pos) (sPar i j t) := by
  refine ⟨PS.imp (ps_asg (pe_tup ha.pa) (pg_tup hc (pgs_cons (pg_name hN hi hx fx) (pgs_cons (pg_name hN hj hy fy) pgs_nil e2) e1) hn hst) hs hw h1) fun D σ H hh => ?_⟩
  obtain ⟨Γ, G, DD, r, t, l⟩ := hh
  refine ⟨Γ, G, _, _, r, t, fun rs Γ1 G1 vs H1 q1 r1 s1 p1 n1 => ?_, (l.ex σ).adv⟩
  split at q1
  · rename_i r0 r2
    obtain ⟨v, w, rfl⟩ : ∃ v w, vs = [v, w] := by
      cases p1 with
      | consD h t => cases t with
        | consD h t => cases t; exact ⟨_, _, rfl⟩
        | consO h n t => cases t; exact ⟨_, _, rfl⟩
      | consO h n t => cases t with
        | consD h t => cases t; exact ⟨_, _, rfl⟩
        | consO h n t => cases t; exact ⟨_, _, rfl⟩
    refine ⟨by rw [sizeLine_eq]; simp, fun p hp => ⟨p, [v, w], rfl, SqT.of upd_same, rfl, v, [w], rfl, w, [], rfl, rfl, ?_⟩⟩
    have av : Adv Γ1 σ G1 H1 Γ1 σ G1 (upd H1 p (.tup [v, w])) := .grow (Grow.fresh r1.sub r1.ntb hp)
    obtain ⟨a1, a2⟩ := (p1.keep av).set1 (i := i) (r1.fresh hp)
    obtain ⟨b1, _⟩ := a2.set1 (i := j) a1
    exact l.nx _ G1 _ _ q1 b1 s1.same
  · exact q1.elim
theorem ds_mix3 {X : Cx} {Z : Dx} {i j m : Nat} {pos : Pos} {x y z : Str} {a b c : Expr} {t : TRd} {px py pz pt : Pos} {kt k2 : Nat} {pt2 : Pos} (hc : X.calm = true) (hN : X.N.Nodup) (hi : X.N[i]? = some x) (hj : X.N[j]? = some y) (hm : X.N[m]? = some z)
    (ha : DR X Z [a, b, c] t) (hx : Loc X.env.scope x := by first | exact .inl rfl | exact .inr rfl) (hy : Loc X.env.scope y := by first | exact .inl rfl | exact .inr rfl) (hz : Loc X.env.scope z := by first | exact .inl rfl | exact .inr rfl)
    (hw : swappedStores [.Tuple [.Name x px, .Name y py, .Name z pz] kt pt] (.Tuple [a, b, c] k2 pt2) X.env = pure none := by rfl)
    (hs : swapsWithSole [.Tuple [.Name x px, .Name y py, .Name z pz] kt pt] (.Tuple [a, b, c] k2 pt2) pos.line X.env = pure false := by rfl)
    (h1 : (assignEach [.Tuple [.Name x px, .Name y py, .Name z pz] kt pt] X.env).map (·.2) = [assign (.Tuple [.Name x px, .Name y py, .Name z pz] kt pt) X.env] := by rfl)
    (e1 : (assignEach [.Name x px, .Name y py, .Name z pz] X.env).map (·.2) = assign (.Name x px) X.env :: (assignEach [.Name y py, .Name z pz] X.env).map (·.2) := by rfl)
    (e2 : (assignEach [.Name y py, .Name z pz] X.env).map (·.2) = assign (.Name y py) X.env :: (assignEach [.Name z pz] X.env).map (·.2) := by rfl)
    (e3 : (assignEach [.Name z pz] X.env).map (·.2) = assign (.Name z pz) X.env :: (assignEach [] X.env).map (·.2) := by rfl)
    (hn : (assignEach [.Name x px, .Name y py, .Name z pz] X.env).length = 3 := by rfl) (hst : (assignEach [.Name x px, .Name y py, .Name z pz] X.env).findIdx? (·.1) = none := by rfl)
    (fx : X.fn x = true ∨ X.env.scope.names.lookup x = some .local := by first | exact .inl rfl | exact .inr rfl) (fy : X.fn y = true ∨ X.env.scope.names.lookup y = some .local := by first | exact .inl rfl | exact .inr rfl) (fz : X.fn z = true ∨ X.env.scope.names.lookup z = some .local := by first | exact .inl rfl | exact .inr rfl) :
    DS X Z (.Assign [.Tuple [.Name x px, .Name y py, .Name z pz] kt pt] (.Tuple [a, b, c] k2 pt2) pos) (sPar3 i j m t) := by
  refine ⟨PS.imp (ps_asg (pe_tup ha.pa) (pg_tup hc (pgs_cons (pg_name hN hi hx fx) (pgs_cons (pg_name hN hj hy fy) (pgs_cons (pg_name hN hm hz fz) pgs_nil e3) e2) e1) hn hst) hs hw h1) fun D σ H hh => ?_⟩
  obtain ⟨Γ, G, DD, r, t, l⟩ := hh
  refine ⟨Γ, G, _, _, r, t, fun rs Γ1 G1 vs H1 q1 r1 s1 p1 n1 => ?_, (l.ex σ).adv⟩
  split at q1
  · obtain ⟨u, v, w, rfl⟩ := p1.three
    refine ⟨by rw [sizeLine_eq]; simp, fun p hp => ⟨p, [u, v, w], rfl, SqT.of upd_same, rfl, u, [v, w], rfl, v, [w], rfl, w, [], rfl, rfl, ?_⟩⟩
    have av : Adv Γ1 σ G1 H1 Γ1 σ G1 (upd H1 p (.tup [u, v, w])) := .grow (Grow.fresh r1.sub r1.ntb hp)
    obtain ⟨a1, a2⟩ := (p1.keep av).set1 (i := i) (r1.fresh hp)
    obtain ⟨b1, b2⟩ := a2.set1 (i := j) a1
    obtain ⟨c1, _⟩ := b2.set1 (i := m) b1
    exact l.nx _ G1 _ _ q1 c1 s1.same
  · exact q1.elim
end DL

set_option Elab.async false
set_option linter.all false
set_option maxRecDepth 100000
set_option maxHeartbeats 0

namespace LW
open PySem PySem.Spec PyProof.Rows L2 DL
def top (i : Nat) : Stmt := PySem.Challenge.pw_fewstories_k07_rows_and_limits.main.body.getD i (.Pass ⟨0, 0, 0, 0⟩)
def clsBody : Stmt → List Stmt
  | .ClassDef (body := b) .. => b
  | _ => []
abbrev s_whole : Stmt := top 5
abbrev s_many : Stmt := top 6
abbrev s_great : Stmt := top 7
abbrev s_states_of : Stmt := top 10
abbrev s_wrong_entry : Stmt := top 13
abbrev s_asked_row : Stmt := top 14
abbrev s_made_row : Stmt := top 15
abbrev s_is_row : Stmt := top 16
abbrev s_asked_limits : Stmt := top 17
abbrev s_made_limits : Stmt := top 18
abbrev s_is_limits : Stmt := top 19
abbrev s_even : Stmt := top 20
abbrev s_asked_rows : Stmt := top 23
abbrev s_row_sum : Stmt := top 24
abbrev s_row_top : Stmt := top 25
abbrev s_row_times : Stmt := top 26
abbrev s_row_below : Stmt := top 27
abbrev s__law_pool : Stmt := top 29
abbrev s__law_take : Stmt := top 30
abbrev s__law_one : Stmt := top 31
abbrev s__law_fb_is : Stmt := top 32
abbrev s__law_fb_same : Stmt := top 33
abbrev s__law_fb_big : Stmt := top 34
abbrev s__law_fb_bent : Stmt := top 35
abbrev s__law_rw_heard : Stmt := top 36
abbrev s__law_rw_fault : Stmt := top 37
abbrev s__law_rw_row : Stmt := top 38
abbrev s__law_rw_forms_right : Stmt := top 39
abbrev s__law_rw_things : Stmt := top 40
abbrev s__law_rw_told_right : Stmt := top 41
abbrev s__law_rw_refused_right : Stmt := top 42
abbrev s__law_rw_hand_right : Stmt := top 43
abbrev s_law : Stmt := top 44
abbrev s_init : Stmt := (clsBody (top 1)).getD 0 (.Pass ⟨0, 0, 0, 0⟩)
def errs : List Str := (["Refused", "BadMany", "BadRow", "BadLimits"] : List (Str))
def asked : List Str := (["BadLimits", "BadMany", "BadRow"] : List (Str))
def subs : List (Str × Str) := ([("BadMany", "BadMany"), ("BadRow", "BadRow"), ("BadLimits", "BadLimits")] : List (Str × Str))
def isE (c d : Str) : Bool := subs.contains (c, d)
def tf : List He.Defn := ([("_law_rw_forms_right", none), ("_law_rw_told_right", none), ("_law_rw_refused_right", none), ("_law_rw_hand_right", none), ("law", none)] : List (He.Defn))
def t_whole : TSd := (sRet (dAndV (dIsi isInt (dVar 0)) (dAndV (dNotV (dIsi isBool (dVar 0))) (dChain opLe opLe (dVar 1) (dVar 0) (dVar 2)))))
def m_whole : MF := mOf t_whole 3 3
def t_many : TSd := (sIf (dNot (dTru (dCall 3 m_whole (daD (dVar 0) (daD (dVar 1) (daD (dVar 2) daNil)))))) (sRaise "BadMany" (dVar 0)) sNext)
def m_many : MF := mOf t_many 3 3
def t_great : TSd := (sSeq (sSet 0 (dC (.int 1))) (sSeq (sFor (iR1 (dC (.int 10))) (gNm 1) (sSet 0 (d2 opMul (dVar 0) (d2 opPow (dC (.int 10)) (dC (.int 60)))))) (sRet (dVar 0))))
def m_great : MF := mOf t_great 0 2
def t_states_of : TSd := (sSeq (sExpr (dCall 3 m_many (daD (dVar 0) (daD (dC (.int 1)) (daD (dC (.int 16)) daNil))))) (sRet (dVar 0)))
def m_states_of : MF := mOf t_states_of 1 1
def t_wrong_entry : TSd := (sSeq (sIf (dOr (dNot (dTru (dIsi isTup (dVar 1)))) (dTst (d2 opNe (dL fLen (dCons (dVar 1) dNil)) (dVar 0)))) (sRet (d1 opNeg (dC (.int 1)))) sNext) (sSeq (sFor (iEn (dVar 1)) (gTp 2 (gCo (gNm 3) (gCo (gNm 4) gNi))) (sIf (dNot (dTru (dCall 3 m_whole (daD (dVar 4) (daD (dC (.int 0)) (daD (dVar 2) daNil)))))) (sRet (dVar 3)) sNext)) (sRet (dC .none))))
def m_wrong_entry : MF := mOf t_wrong_entry 3 5
def t_asked_row : TSd := (sSeq (sExpr (dCall 1 m_states_of (daD (dVar 0) daNil))) (sSeq (sSet 2 (dCall 3 m_wrong_entry (daD (dVar 0) (daD (dVar 1) (daD (dCall0 m_great) daNil))))) (sSeq (sIf (dTst (d2 opNotN (dVar 2) (dC .none))) (sRaise "BadRow" (dVar 2)) sNext) (sRet (dVar 1)))))
def m_asked_row : MF := mOf t_asked_row 2 3
def t_made_row : TSd := (sRet (dCall 2 m_asked_row (daD (dVar 0) (daD (dVar 1) daNil))))
def m_made_row : MF := mOf t_made_row 2 2
def t_is_row : TSd := (sRet (d2 opIsN (dCall 3 m_wrong_entry (daD (dCall 1 m_states_of (daD (dVar 0) daNil)) (daD (dVar 1) (daD (dCall0 m_great) daNil)))) (dC .none)))
def m_is_row : MF := mOf t_is_row 2 2
def t_asked_limits : TSd := (sSeq (sExpr (dCall 1 m_states_of (daD (dVar 0) daNil))) (sSeq (sSet 2 (dCall 3 m_wrong_entry (daD (dVar 0) (daD (dVar 1) (daD (dC (.int 250)) daNil))))) (sSeq (sIf (dTst (d2 opNotN (dVar 2) (dC .none))) (sRaise "BadLimits" (dVar 2)) sNext) (sRet (dVar 1)))))
def m_asked_limits : MF := mOf t_asked_limits 2 3
def t_made_limits : TSd := (sRet (dCall 2 m_asked_limits (daD (dVar 0) (daD (dVar 1) daNil))))
def m_made_limits : MF := mOf t_made_limits 2 2
def t_is_limits : TSd := (sRet (d2 opIsN (dCall 3 m_wrong_entry (daD (dCall 1 m_states_of (daD (dVar 0) daNil)) (daD (dVar 1) (daD (dC (.int 250)) daNil)))) (dC .none)))
def m_is_limits : MF := mOf t_is_limits 2 2
def t_even : TSd := (sSeq (sExpr (dCall 1 m_states_of (daD (dVar 0) daNil))) (sSeq (sExpr (dCall 3 m_many (daD (dVar 1) (daD (dC (.int 0)) (daD (dC (.int 250)) daNil))))) (sRet (d2 opMul (dTup (dCons (dVar 1) dNil)) (dVar 0)))))
def m_even : MF := mOf t_even 2 2
def t_asked_rows : TSd := (sSeq (sExpr (dCall 2 m_asked_row (daD (dVar 0) (daD (dVar 1) daNil)))) (sExpr (dCall 2 m_asked_row (daD (dVar 0) (daD (dVar 2) daNil)))))
def m_asked_rows : MF := mOf t_asked_rows 3 3
def t_row_sum : TSd := (sSeq (sExpr (dCall 3 m_asked_rows (daD (dVar 0) (daD (dVar 1) (daD (dVar 2) daNil))))) (sRet (dL fTup (dCons (dFrz (oLc (iR1 (dVar 0)) (gNm 3) dYes (d2 opAdd (d2 opIx (dVar 1) (dVar 3)) (d2 opIx (dVar 2) (dVar 3))) [3])) dNil))))
def m_row_sum : MF := mOf t_row_sum 3 4
def t_row_top : TSd := (sSeq (sExpr (dCall 3 m_asked_rows (daD (dVar 0) (daD (dVar 1) (daD (dVar 2) daNil))))) (sRet (dL fTup (dCons (dFrz (oLc (iR1 (dVar 0)) (gNm 3) dYes (dL fMax (dCons (d2 opIx (dVar 1) (dVar 3)) (dCons (d2 opIx (dVar 2) (dVar 3)) dNil))) [3])) dNil))))
def m_row_top : MF := mOf t_row_top 3 4
def t_row_times : TSd := (sSeq (sExpr (dCall 2 m_asked_row (daD (dVar 0) (daD (dVar 1) daNil)))) (sSeq (sExpr (dCall 3 m_many (daD (dVar 2) (daD (dC (.int 0)) (daD (dC (.int 1000000)) daNil))))) (sRet (dL fTup (dCons (dFrz (oLc (iSq (dVar 1)) (gNm 3) dYes (d2 opMul (dVar 2) (dVar 3)) [3])) dNil)))))
def m_row_times : MF := mOf t_row_times 3 4
def t_row_below : TSd := (sSeq (sExpr (dCall 3 m_asked_rows (daD (dVar 0) (daD (dVar 1) (daD (dVar 2) daNil))))) (sRet (d2 opEq (dFrz (oLc (iR1 (dVar 0)) (gNm 3) (dTst (d2 opGt (d2 opIx (dVar 1) (dVar 3)) (d2 opIx (dVar 2) (dVar 3)))) (dVar 3) [3])) (dFrz (dLst dNil)))))
def m_row_below : MF := mOf t_row_below 3 4
def t__law_pool (ad : Addr) (ns : List Int) : TSd := (sSeq (sAsg (dTup (dCons (dC (.int 0)) (dCons (dC (.int 7)) dNil))) (gTp 2 (gCo (gNm 1) (gCo (gNm 2) gNi)))) (sSeq (sFor (iR1 (dPinLen 0 ad ns)) (gNm 3) (sSeq (sSet 4 (dL fInt (dCons (dL fMax (dCons (dPinIx 0 ad ns (dVar 3)) (dCons (d2 opSub (d1 opNeg (dC (.int 1))) (dPinIx 0 ad ns (dVar 3))) dNil))) dNil))) (sSeq (sSet 2 (d2 opMod (dL fInt (dCons (d2 opAdd (d2 opAdd (d2 opMul (dVar 2) (dC (.int 48271))) (d2 opMod (dVar 4) (dC (.int 2147483629)))) (dC (.int 11))) dNil)) (dC (.int 2147483647)))) (sSet 1 (dIf (dAnd (dTst (d2 opGe (dVar 4) (d2 opPow (dC (.int 10)) (dC (.int 12))))) (dTst (d2 opLt (dVar 1) (d2 opPow (dC (.int 10)) (dC (.int 60)))))) (dL fInt (dCons (d2 opAdd (d2 opMul (dVar 1) (d2 opPow (dC (.int 10)) (dC (.int 60)))) (d2 opMod (dVar 4) (d2 opPow (dC (.int 10)) (dC (.int 60))))) dNil)) (dVar 1)))))) (sRetO (dLst (dCons (dVar 1) (dCons (dVar 2) (dCons (dC (.int 0)) dNil)))))))
def m__law_pool (ad : Addr) (ns : List Int) : MF := mOf (t__law_pool ad ns) 1 5
def t__law_take : TSd := (sSeq (sIf (dTst (d2 opGt (dIxL 0 (dC (.int 0))) (dC (.int 0)))) (sSeq (sSet 2 (d2 opMod (dL fInt (dCons (dIxL 0 (dC (.int 0))) dNil)) (dVar 1))) (sSeq (sPut 0 (dC (.int 0)) (d2 opFdiv (dIxL 0 (dC (.int 0))) (dVar 1))) (sRet (dVar 2)))) sNext) (sSeq (sPut 0 (dC (.int 2)) (d2 opAdd (dIxL 0 (dC (.int 2))) (dC (.int 1)))) (sSeq (sPut 0 (dC (.int 1)) (d2 opMod (dL fInt (dCons (d2 opAdd (d2 opAdd (d2 opMul (dIxL 0 (dC (.int 1))) (dC (.int 39373))) (d2 opMul (dC (.int 7919)) (dIxL 0 (dC (.int 2))))) (dC (.int 7))) dNil)) (dC (.int 2147483647)))) (sRet (d2 opMod (dL fInt (dCons (d2 opFdiv (d2 opMod (dL fInt (dCons (d2 opMul (dIxL 0 (dC (.int 1))) (dIxL 0 (dC (.int 1)))) dNil)) (dC (.int 2147483629))) (dC (.int 32))) dNil)) (dVar 1))))))
def m__law_take : MF := mOf t__law_take 2 3
def t__law_one : TSd := (sRet (d2 opIx (dVar 1) (dCall 2 m__law_take (daSo 0 (daD (dL fLen (dCons (dVar 1) dNil)) daNil)))))
def m__law_one : MF := mOf t__law_one 2 2
def t__law_fb_is : TSd := (sRet (dAndV (dIsi isInt (dVar 0)) (dAndV (dNotV (dIsi isBool (dVar 0))) (dChain opLe opLe (dVar 1) (dVar 0) (dVar 2)))))
def m__law_fb_is : MF := mOf t__law_fb_is 3 3
def m__law_fb_same : Nat → MF
  | 0 => fun _ _ _ => False
  | fuel + 1 => mOf ((sSeq (sIf (dTst (d2 opIsN (dVar 1) (dC .none))) (sRet (d2 opIsN (dVar 0) (dC .none))) sNext) (sSeq (sIf (dTru (dIsi isBool (dVar 1))) (sRet (dIf (dTru (dVar 1)) (d2 opIsB (dVar 0) (dC (.bool true))) (d2 opIsB (dVar 0) (dC (.bool false))))) sNext) (sSeq (sIf (dTru (dIsi isInt (dVar 1))) (sRet (dAndV (dIsi isInt (dVar 0)) (dAndV (dNotV (dIsi isBool (dVar 0))) (d2 opEq (dVar 0) (dVar 1))))) sNext) (sSeq (sIf (dTru (dIsi isStr (dVar 1))) (sRet (dAndV (dIsi isStr (dVar 0)) (d2 opEq (dVar 0) (dVar 1)))) sNext) (sSeq (sSet 2 (dIf (dTru (dIsi isTup (dVar 1))) (dIsi isTup (dVar 0)) (dIsi isLst (dVar 0)))) (sSeq (sIf (dOr (dNot (dTru (dVar 2))) (dTst (d2 opNe (dL fLen (dCons (dVar 0) dNil)) (dL fLen (dCons (dVar 1) dNil))))) (sRet (dC (.bool false))) sNext) (sRet (d2 opEq (dFrz (oLc (iR1 (dL fLen (dCons (dVar 1) dNil))) (gNm 3) (dNot (dTru (dCall 2 (m__law_fb_same fuel) (daD (d2 opIx (dVar 0) (dVar 3)) (daD (d2 opIx (dVar 1) (dVar 3)) daNil))))) (dVar 3) [3])) (dFrz (dLst dNil))))))))))) 2 4
def t__law_fb_big : TSd := (sSeq (sSet 0 (dC (.int 1))) (sSeq (sFor (iR1 (dC (.int 10))) (gNm 1) (sSet 0 (d2 opMul (dVar 0) (d2 opPow (dC (.int 10)) (dC (.int 60)))))) (sRet (dVar 0))))
def m__law_fb_big : MF := mOf t__law_fb_big 0 2
def m__law_fb_bent : Nat → MF
  | 0 => fun _ _ _ => False
  | fuel + 1 => mOf ((sSeq (sSet 2 (dFrz (dLst (dCons (dC .none) (dCons (dC (.bool true)) (dCons (dC (.bool false)) (dCons (dC (.str "go")) (dCons (dC (.str "foe")) (dCons (d1 opNeg (dC (.int 1))) (dCons (dC (.int 0)) (dCons (dC (.int 1)) (dCons (dC (.int 13)) (dCons (dC (.int 61)) (dCons (dC (.int 251)) (dCons (dTup dNil) (dCons (dTup (dCons (dC (.int 0)) dNil)) (dCons (dFrz (dLst dNil)) (dCons (dTup (dCons (dC (.str "go")) (dCons (dC (.int 0)) dNil))) dNil)))))))))))))))))) (sSeq (sSet 3 (dCall 2 m__law_one (daSo 0 (daD (dVar 2) daNil)))) (sSeq (sIf (dOr (dNot (dTru (dIsi isTup (dVar 1)))) (dTst (d2 opEq (dVar 1) (dTup dNil)))) (sRet (dIf (dTru (dCall 3 m__law_fb_is (daD (dVar 1) (daD (d1 opNeg (dC (.int 1))) (daD (dC (.int 300)) daNil))))) (dCall 2 m__law_one (daSo 0 (daD (dFrz (dLst (dCons (d2 opAdd (dVar 1) (dC (.int 1))) (dCons (d2 opSub (dVar 1) (dC (.int 1))) (dCons (dVar 3) (dCons (dTup (dCons (dVar 1) dNil)) (dCons (dC (.bool true)) dNil))))))) daNil))) (dVar 3))) sNext) (sSeq (sPar 4 5 (drD (dCall 2 m__law_take (daSo 0 (daD (dL fLen (dCons (dVar 1) dNil)) daNil))) (drD (dCall 2 m__law_take (daSo 0 (daD (dC (.int 10)) daNil))) drNil))) (sSeq (sIf (dTst (d2 opLt (dVar 5) (dC (.int 6)))) (sRet (d2 opAdd (d2 opAdd (dSl (dVar 1) dpN (dpS (dVar 4))) (dTup (dCons (dCall 2 (m__law_fb_bent fuel) (daSo 0 (daD (d2 opIx (dVar 1) (dVar 4)) daNil))) dNil))) (dSl (dVar 1) (dpS (d2 opAdd (dVar 4) (dC (.int 1)))) dpN))) sNext) (sSeq (sSet 6 (dFrz (dLst (dCons (d2 opAdd (dSl (dVar 1) dpN (dpS (dVar 4))) (dSl (dVar 1) (dpS (d2 opAdd (dVar 4) (dC (.int 1)))) dpN)) (dCons (d2 opAdd (dSl (dVar 1) dpN (dpS (d2 opAdd (dVar 4) (dC (.int 1))))) (dSl (dVar 1) (dpS (dVar 4)) dpN)) (dCons (dRev (dVar 1)) (dCons (dL fLst (dCons (dVar 1) dNil)) dNil))))))) (sRet (d2 opIx (dVar 6) (d2 opSub (dVar 5) (dC (.int 6)))))))))))) 2 7
def ts__law_rw_heard (x : Exn) (a0 : Addr) : TSd := (sSeq (sSetO 2 (dLst dNil)) (sSeq (sExpr (dApp 2 (dTup (dCons (dC (.str "BadLimits")) (dCons (dIsE 1 a0 (isE x.cls "BadLimits")) dNil))))) (sSeq (sExpr (dApp 2 (dTup (dCons (dC (.str "BadMany")) (dCons (dIsE 1 a0 (isE x.cls "BadMany")) dNil))))) (sSeq (sExpr (dApp 2 (dTup (dCons (dC (.str "BadRow")) (dCons (dIsE 1 a0 (isE x.cls "BadRow")) dNil))))) (sRet (dTup (dCons (dJoin (dC (.str " ")) (dFrz (oLc (iSqL (dVar 2)) (gTp 2 (gCo (gNm 3) (gCo (gNm 4) gNi))) (dTru (dVar 4)) (dVar 3) [3, 4]))) (dCons (dWhat 1 a0 x.what) dNil))))))))
def t__law_rw_fault : TSd := (sSeq (sIf (dOr (dNot (dTru (dIsi isTup (dVar 1)))) (dTst (d2 opNe (dL fLen (dCons (dVar 1) dNil)) (dVar 0)))) (sRet (d1 opNeg (dC (.int 1)))) sNext) (sSeq (sSet 3 (dFrz (oLc (iR1 (dVar 0)) (gNm 4) (dNot (dTru (dCall 3 m__law_fb_is (daD (d2 opIx (dVar 1) (dVar 4)) (daD (dC (.int 0)) (daD (dVar 2) daNil)))))) (dVar 4) [4]))) (sRet (dIf (dTst (d2 opNe (dVar 3) (dFrz (dLst dNil)))) (d2 opIx (dVar 3) (dC (.int 0))) (dC .none)))))
def m__law_rw_fault : MF := mOf t__law_rw_fault 3 5
def t__law_rw_row : TSd := (sSeq (sSet 2 (dCall0 m__law_fb_big)) (sSeq (sSet 3 (dFrz (dLst (dCons (dFrz (dLst (dCons (dC (.int 0)) (dCons (dC (.int 1)) (dCons (dC (.int 2)) (dCons (dC (.int 3)) dNil)))))) (dCons (dFrz (dLst (dCons (dC (.int 0)) dNil))) (dCons (dFrz (dLst (dCons (dC (.int 1)) (dCons (dC (.int 250)) (dCons (dC (.int 251)) (dCons (d2 opPow (dC (.int 10)) (dC (.int 40))) dNil)))))) (dCons (dFrz (dLst (dCons (dVar 2) (dCons (d2 opSub (dVar 2) (dC (.int 1))) (dCons (dC (.int 0)) (dCons (dC (.int 1)) dNil)))))) (dCons (dFrz (dLst (dCons (dC (.int 7)) (dCons (d2 opFdiv (dVar 2) (dC (.int 3))) (dCons (d2 opPow (dC (.int 10)) (dC (.int 9))) dNil))))) dNil)))))))) (sSeq (sSet 4 (dCall 2 m__law_one (daSo 0 (daD (dVar 3) daNil)))) (sRet (dL fTup (dCons (dFrz (oLc (iR1 (dVar 1)) (gNm 5) dYes (dCall 2 m__law_one (daSo 0 (daD (dVar 4) daNil))) [5])) dNil))))))
def m__law_rw_row : MF := mOf t__law_rw_row 2 6
def t__law_rw_forms_right : TSd := (sSeq (sPar 2 3 (drD (dCall 3 m__law_rw_fault (daD (dVar 0) (daD (dVar 1) (daD (dCall0 m__law_fb_big) daNil)))) (drD (dCall 3 m__law_rw_fault (daD (dVar 0) (daD (dVar 1) (daD (dC (.int 250)) daNil)))) drNil))) (sSeq (sSetO 4 (dLst (dCons (dHeard errs ts__law_rw_heard 5 1 (dCall 2 m_made_row (daD (dVar 0) (daD (dVar 1) daNil)))) dNil))) (sSeq (sExpr (dApp 4 (dHeard errs ts__law_rw_heard 5 1 (dCall 2 m_is_row (daD (dVar 0) (daD (dVar 1) daNil)))))) (sSeq (sExpr (dApp 4 (dHeard errs ts__law_rw_heard 5 1 (dCall 2 m_made_limits (daD (dVar 0) (daD (dVar 1) daNil)))))) (sSeq (sExpr (dApp 4 (dHeard errs ts__law_rw_heard 5 1 (dCall 2 m_is_limits (daD (dVar 0) (daD (dVar 1) daNil)))))) (sSeq (sSetO 5 (dLst (dCons (dIf (dTst (d2 opIsN (dVar 2) (dC .none))) (dTup (dCons (dC (.str "told")) (dCons (dVar 1) dNil))) (dTup (dCons (dC (.str "BadRow")) (dCons (dVar 2) dNil)))) (dCons (dTup (dCons (dC (.str "told")) (dCons (d2 opIsN (dVar 2) (dC .none)) dNil))) dNil)))) (sSeq (sExpr (dApp 5 (dIf (dTst (d2 opIsN (dVar 3) (dC .none))) (dTup (dCons (dC (.str "told")) (dCons (dVar 1) dNil))) (dTup (dCons (dC (.str "BadLimits")) (dCons (dVar 3) dNil)))))) (sRet (dCall 2 (m__law_fb_same 12) (daD (dVar 4) (daD (d2 opAdd (dVar 5) (dFrz (dLst (dCons (dTup (dCons (dC (.str "told")) (dCons (d2 opIsN (dVar 3) (dC .none)) dNil))) dNil)))) daNil)))))))))))
def m__law_rw_forms_right : MF := mOf t__law_rw_forms_right 2 6
def t__law_rw_things : TSd := (sSeq (sSet 2 (dCall0 m__law_fb_big)) (sSeq (sSetO 3 (dLst (dCons (dVar 1) (dCons (dL fLst (dCons (dVar 1) dNil)) (dCons (dC .none) (dCons (dC (.int 0)) (dCons (dC (.str "row")) (dCons (dTup (dCons (dVar 1) dNil)) (dCons (d2 opAdd (dVar 1) (dTup (dCons (dC (.int 0)) dNil))) (dCons (dSl (dVar 1) (dpS (dC (.int 1))) dpN) (dCons (dTup dNil) (dCons (d2 opAdd (dVar 1) (dVar 1)) (dCons (dC (.bool true)) dNil))))))))))))) (sSeq (sFor (iSq (dFrz (dLst (dCons (d1 opNeg (dC (.int 1))) (dCons (dVar 2) (dCons (d2 opAdd (dVar 2) (dC (.int 1))) (dCons (dC (.int 250)) (dCons (dC (.int 251)) (dCons (dC (.bool true)) (dCons (dC (.bool false)) (dCons (dC .none) (dCons (dC (.str "0")) (dCons (dTup (dCons (dC (.int 0)) dNil)) (dCons (dFrz (dLst (dCons (dC (.int 0)) dNil))) (dCons (dC (.int 0)) dNil))))))))))))))) (gNm 4) (sSeq (sSet 5 (dCall 2 m__law_take (daSo 0 (daD (dL fLen (dCons (dVar 1) dNil)) daNil)))) (sExpr (dExt 3 (dFrz (dLst (dCons (d2 opAdd (d2 opAdd (dSl (dVar 1) dpN (dpS (dVar 5))) (dTup (dCons (dVar 4) dNil))) (dSl (dVar 1) (dpS (d2 opAdd (dVar 5) (dC (.int 1)))) dpN)) (dCons (d2 opAdd (d2 opAdd (d2 opAdd (dSl (dVar 1) dpN (dpS (dVar 5))) (dTup (dCons (dVar 4) dNil))) (dSl (dVar 1) (dpS (d2 opAdd (dVar 5) (dC (.int 1)))) (dpS (d1 opNeg (dC (.int 1)))))) (dTup (dCons (dC .none) dNil))) dNil)))))))) (sRet (d2 opAdd (dVar 3) (dFrz (dLst (dCons (dCall 2 (m__law_fb_bent 12) (daSo 0 (daD (dVar 1) daNil))) dNil))))))))
def m__law_rw_things : MF := mOf t__law_rw_things 2 6
def t__law_rw_told_right : TSd := (sSeq (sSetO 4 (dLst (dCons (dHeard errs ts__law_rw_heard 5 1 (dCall 3 m_row_sum (daD (dVar 0) (daD (dVar 1) (daD (dVar 2) daNil))))) dNil))) (sSeq (sExpr (dApp 4 (dHeard errs ts__law_rw_heard 5 1 (dCall 3 m_row_top (daD (dVar 0) (daD (dVar 1) (daD (dVar 2) daNil))))))) (sSeq (sExpr (dApp 4 (dHeard errs ts__law_rw_heard 5 1 (dCall 3 m_row_times (daD (dVar 0) (daD (dVar 1) (daD (dVar 3) daNil))))))) (sSeq (sExpr (dApp 4 (dHeard errs ts__law_rw_heard 5 1 (dCall 3 m_row_below (daD (dVar 0) (daD (dVar 1) (daD (dVar 2) daNil))))))) (sSeq (sExpr (dApp 4 (dHeard errs ts__law_rw_heard 5 1 (dCall 3 m_row_below (daD (dVar 0) (daD (dVar 1) (daD (dVar 1) daNil))))))) (sSeq (sSetO 5 (dLst (dCons (dL fTup (dCons (dFrz (oLc (iR1 (dVar 0)) (gNm 7) dYes (d2 opAdd (d2 opIx (dVar 1) (dVar 7)) (d2 opIx (dVar 2) (dVar 7))) [7])) dNil)) (dCons (dL fTup (dCons (dFrz (oLc (iR1 (dVar 0)) (gNm 7) dYes (dL fMax (dCons (d2 opIx (dVar 1) (dVar 7)) (dCons (d2 opIx (dVar 2) (dVar 7)) dNil))) [7])) dNil)) dNil)))) (sSeq (sExpr (dExt 5 (dFrz (dLst (dCons (dL fTup (dCons (dFrz (oLc (iR1 (dVar 0)) (gNm 7) dYes (d2 opMul (d2 opIx (dVar 1) (dVar 7)) (dVar 3)) [7])) dNil)) (dCons (d2 opEq (dFrz (oLc (iR1 (dVar 0)) (gNm 7) (dTst (d2 opGt (d2 opIx (dVar 1) (dVar 7)) (d2 opIx (dVar 2) (dVar 7)))) (dVar 7) [7])) (dFrz (dLst dNil))) (dCons (dC (.bool true)) dNil))))))) (sRet (dCall 2 (m__law_fb_same 12) (daD (dVar 4) (daD (dFrz (oLc (iSq (dVar 5)) (gNm 6) dYes (dTup (dCons (dC (.str "told")) (dCons (dVar 6) dNil))) [6])) daNil)))))))))))
def m__law_rw_told_right : MF := mOf t__law_rw_told_right 4 8
def t__law_rw_refused_right : TSd := (sSeq (sSet 4 (dCall 2 m__law_one (daSo 0 (daD (dFrz (dLst (dCons (dC (.int 0)) (dCons (dC (.int 17)) (dCons (d1 opNeg (dC (.int 1))) (dCons (dC (.bool true)) (dCons (dC .none) (dCons (dC (.str "2")) (dCons (dTup (dCons (dC (.int 2)) dNil)) (dCons (d2 opPow (dC (.int 10)) (dC (.int 20))) dNil)))))))))) daNil)))) (sSeq (sSet 5 (dFrz (dLst (dCons (dC .none) (dCons (dL fLst (dCons (dVar 2) dNil)) (dCons (d2 opAdd (dVar 2) (dTup (dCons (dC (.int 0)) dNil))) (dCons (d2 opAdd (dTup (dCons (d1 opNeg (dC (.int 1))) dNil)) (dSl (dVar 2) (dpS (dC (.int 1))) dpN)) (dCons (d2 opAdd (dSl (dVar 2) dpN (dpS (d1 opNeg (dC (.int 1))))) (dTup (dCons (dC (.bool true)) dNil))) (dCons (d2 opAdd (dSl (dVar 2) dpN (dpS (d1 opNeg (dC (.int 1))))) (dTup (dCons (d2 opAdd (dCall0 m__law_fb_big) (dC (.int 1))) dNil))) (dCons (dTup dNil) dNil)))))))))) (sSeq (sAsg (dTup (dCons (dCall 2 m__law_one (daSo 0 (daD (dVar 5) daNil))) (dCons (dCall 2 m__law_one (daSo 0 (daD (dFrz (dLst (dCons (dC .none) (dCons (dSl (dVar 3) (dpS (dC (.int 1))) dpN) (dCons (d2 opAdd (dTup (dCons (dC (.str "0")) dNil)) (dSl (dVar 3) (dpS (dC (.int 1))) dpN)) (dCons (d2 opAdd (dSl (dVar 3) dpN (dpS (d1 opNeg (dC (.int 1))))) (dTup (dCons (d1 opNeg (dC (.int 5))) dNil))) (dCons (dFrz (dLst (dCons (dC (.int 0)) dNil))) dNil))))))) daNil))) dNil))) (gTp 2 (gCo (gNm 6) (gCo (gNm 7) gNi)))) (sSeq (sSet 8 (dCall 2 m__law_one (daSo 0 (daD (dFrz (dLst (dCons (dC (.int 1000001)) (dCons (d1 opNeg (dC (.int 1))) (dCons (dC (.bool true)) (dCons (dC .none) (dCons (dC (.str "1")) (dCons (dTup (dCons (dC (.int 1)) dNil)) (dCons (d2 opPow (dC (.int 10)) (dC (.int 20))) dNil))))))))) daNil)))) (sSeq (sSet 9 (dCall 2 m__law_one (daSo 0 (daD (dFrz (dLst (dCons (dC (.int 251)) (dCons (d1 opNeg (dC (.int 1))) (dCons (dC (.bool true)) (dCons (dC .none) (dCons (dC (.str "1")) (dCons (dTup (dCons (dC (.int 1)) dNil)) dNil)))))))) daNil)))) (sSeq (sSetO 10 (dLst (dCons (dHeard errs ts__law_rw_heard 5 1 (dCall 2 m_made_row (daD (dVar 4) (daD (dVar 6) daNil)))) dNil))) (sSeq (sExpr (dApp 10 (dHeard errs ts__law_rw_heard 5 1 (dCall 2 m_is_row (daD (dVar 4) (daD (dVar 6) daNil)))))) (sSeq (sExpr (dApp 10 (dHeard errs ts__law_rw_heard 5 1 (dCall 2 m_made_limits (daD (dVar 4) (daD (dVar 6) daNil)))))) (sSeq (sExpr (dApp 10 (dHeard errs ts__law_rw_heard 5 1 (dCall 2 m_is_limits (daD (dVar 4) (daD (dVar 6) daNil)))))) (sSeq (sExpr (dApp 10 (dHeard errs ts__law_rw_heard 5 1 (dCall 2 m_even (daD (dVar 4) (daD (dVar 9) daNil)))))) (sSeq (sExpr (dApp 10 (dHeard errs ts__law_rw_heard 5 1 (dCall 3 m_row_sum (daD (dVar 4) (daD (dVar 6) (daD (dVar 7) daNil))))))) (sSeq (sExpr (dApp 10 (dHeard errs ts__law_rw_heard 5 1 (dCall 3 m_row_top (daD (dVar 4) (daD (dVar 6) (daD (dVar 7) daNil))))))) (sSeq (sExpr (dApp 10 (dHeard errs ts__law_rw_heard 5 1 (dCall 3 m_row_times (daD (dVar 4) (daD (dVar 6) (daD (dVar 8) daNil))))))) (sSeq (sExpr (dApp 10 (dHeard errs ts__law_rw_heard 5 1 (dCall 3 m_row_below (daD (dVar 4) (daD (dVar 6) (daD (dVar 7) daNil))))))) (sSeq (sPar 11 12 (drO (o2 opMulO (dFrz (dLst (dCons (dTup (dCons (dC (.str "BadMany")) (dCons (dVar 4) dNil))) dNil))) (dC (.int 9))) (drD (dCall0 m__law_fb_big) drNil))) (sSeq (sFor (iSq (dFrz (dLst (dCons (dTup (dCons (dVar 6) (dCons (dVar 7) (dCons (dVar 6) dNil)))) (dCons (dTup (dCons (dVar 2) (dCons (dVar 7) (dCons (dVar 7) dNil)))) dNil))))) (gTp 3 (gCo (gNm 13) (gCo (gNm 14) (gCo (gNm 15) gNi)))) (sSeq (sExpr (dApp 10 (dHeard errs ts__law_rw_heard 5 1 (dCall 3 m_row_sum (daD (dVar 1) (daD (dVar 13) (daD (dVar 14) daNil))))))) (sSeq (sExpr (dApp 10 (dHeard errs ts__law_rw_heard 5 1 (dCall 3 m_row_top (daD (dVar 1) (daD (dVar 13) (daD (dVar 14) daNil))))))) (sSeq (sExpr (dApp 10 (dHeard errs ts__law_rw_heard 5 1 (dCall 3 m_row_below (daD (dVar 1) (daD (dVar 13) (daD (dVar 14) daNil))))))) (sExpr (dExt 11 (d2 opMul (dFrz (dLst (dCons (dTup (dCons (dC (.str "BadRow")) (dCons (dCall 3 m__law_rw_fault (daD (dVar 1) (daD (dVar 15) (daD (dVar 12) daNil)))) dNil))) dNil))) (dC (.int 3))))))))) (sSeq (sExpr (dApp 10 (dHeard errs ts__law_rw_heard 5 1 (dCall 3 m_row_times (daD (dVar 1) (daD (dVar 6) (daD (dVar 8) daNil))))))) (sSeq (sExpr (dApp 10 (dHeard errs ts__law_rw_heard 5 1 (dCall 3 m_row_times (daD (dVar 1) (daD (dVar 2) (daD (dVar 8) daNil))))))) (sSeq (sExpr (dApp 10 (dHeard errs ts__law_rw_heard 5 1 (dCall 2 m_even (daD (dVar 1) (daD (dVar 9) daNil)))))) (sRet (dCall 2 (m__law_fb_same 12) (daD (dVar 10) (daD (d2 opAdd (dVar 11) (dFrz (dLst (dCons (dTup (dCons (dC (.str "BadRow")) (dCons (dCall 3 m__law_rw_fault (daD (dVar 1) (daD (dVar 6) (daD (dVar 12) daNil)))) dNil))) (dCons (dTup (dCons (dC (.str "BadMany")) (dCons (dVar 8) dNil))) (dCons (dTup (dCons (dC (.str "BadMany")) (dCons (dVar 9) dNil))) dNil)))))) daNil)))))))))))))))))))))))
def m__law_rw_refused_right : MF := mOf t__law_rw_refused_right 4 16
def t__law_rw_hand_right : TSd := (sSeq (sAsg (dTup (dCons (dTup (dCons (dC (.int 1)) (dCons (dC (.int 2)) (dCons (dC (.int 3)) dNil)))) (dCons (dTup (dCons (dC (.int 3)) (dCons (dC (.int 3)) (dCons (dC (.int 3)) dNil)))) (dCons (dCall0 m__law_fb_big) dNil)))) (gTp 3 (gCo (gNm 0) (gCo (gNm 1) (gCo (gNm 2) gNi))))) (sSeq (sSetO 3 (dLst (dCons (dHeard errs ts__law_rw_heard 5 1 (dFrz (dLst (dCons (dCall 3 m_row_sum (daD (dC (.int 3)) (daD (dVar 0) (daD (dTup (dCons (dC (.int 3)) (dCons (dC (.int 0)) (dCons (dC (.int 1)) dNil)))) daNil)))) (dCons (dCall 3 m_row_top (daD (dC (.int 3)) (daD (dVar 0) (daD (dTup (dCons (dC (.int 3)) (dCons (dC (.int 0)) (dCons (dC (.int 1)) dNil)))) daNil)))) dNil))))) dNil))) (sSeq (sExpr (dApp 3 (dHeard errs ts__law_rw_heard 5 1 (dFrz (dLst (dCons (dCall 3 m_row_times (daD (dC (.int 3)) (daD (dVar 0) (daD (dC (.int 10)) daNil)))) (dCons (dCall 3 m_row_times (daD (dC (.int 3)) (daD (dVar 0) (daD (dC (.int 0)) daNil)))) (dCons (dCall 2 m_even (daD (dC (.int 3)) (daD (dC (.int 3)) daNil))) (dCons (dCall 2 m_even (daD (dC (.int 1)) (daD (dC (.int 0)) daNil))) dNil))))))))) (sSeq (sExpr (dApp 3 (dHeard errs ts__law_rw_heard 5 1 (dFrz (dLst (dCons (dCall 3 m_row_below (daD (dC (.int 3)) (daD (dVar 0) (daD (dVar 1) daNil)))) (dCons (dCall 3 m_row_below (daD (dC (.int 3)) (daD (dVar 0) (daD (dVar 0) daNil)))) dNil))))))) (sSeq (sExpr (dApp 3 (dHeard errs ts__law_rw_heard 5 1 (dCall 3 m_row_below (daD (dC (.int 3)) (daD (dVar 1) (daD (dVar 0) daNil))))))) (sSeq (sExpr (dApp 3 (dHeard errs ts__law_rw_heard 5 1 (dFrz (dLst (dCons (dCall 3 m_row_sum (daD (dC (.int 1)) (daD (dTup (dCons (dVar 2) dNil)) (daD (dTup (dCons (dC (.int 1)) dNil)) daNil)))) (dCons (dCall 3 m_row_times (daD (dC (.int 16)) (daD (d2 opMul (dTup (dCons (dVar 2) dNil)) (dC (.int 16))) (daD (dC (.int 1000000)) daNil)))) dNil))))))) (sSeq (sSetO 4 (dLst (dCons (dFrz (dLst (dCons (dTup (dCons (dC (.int 4)) (dCons (dC (.int 2)) (dCons (dC (.int 4)) dNil)))) (dCons (dTup (dCons (dC (.int 3)) (dCons (dC (.int 2)) (dCons (dC (.int 3)) dNil)))) dNil)))) (dCons (dFrz (dLst (dCons (dTup (dCons (dC (.int 10)) (dCons (dC (.int 20)) (dCons (dC (.int 30)) dNil)))) (dCons (dTup (dCons (dC (.int 0)) (dCons (dC (.int 0)) (dCons (dC (.int 0)) dNil)))) (dCons (dVar 1) (dCons (dTup (dCons (dC (.int 0)) dNil)) dNil)))))) (dCons (dFrz (dLst (dCons (dC (.bool true)) (dCons (dC (.bool true)) dNil)))) (dCons (dC (.bool false)) dNil)))))) (sSeq (sExpr (dApp 4 (dFrz (dLst (dCons (dTup (dCons (d2 opAdd (dVar 2) (dC (.int 1))) dNil)) (dCons (d2 opMul (dTup (dCons (d2 opMul (dVar 2) (dC (.int 1000000))) dNil)) (dC (.int 16))) dNil)))))) (sSeq (sExpr (dApp 3 (dHeard errs ts__law_rw_heard 5 1 (dFrz (dLst (dCons (dCall 2 m_is_row (daD (dC (.int 1)) (daD (dTup (dCons (dVar 2) dNil)) daNil))) (dCons (dCall 2 m_is_row (daD (dC (.int 1)) (daD (dTup (dCons (d2 opAdd (dVar 2) (dC (.int 1))) dNil)) daNil))) (dCons (dCall 2 m_is_limits (daD (dC (.int 1)) (daD (dTup (dCons (dC (.int 250)) dNil)) daNil))) dNil)))))))) (sSeq (sExpr (dApp 3 (dHeard errs ts__law_rw_heard 5 1 (dFrz (dLst (dCons (dCall 2 m_is_limits (daD (dC (.int 1)) (daD (dTup (dCons (dC (.int 251)) dNil)) daNil))) (dCons (dCall 2 m_even (daD (dC (.int 16)) (daD (dC (.int 250)) daNil))) dNil))))))) (sSeq (sExpr (dExt 4 (dFrz (dLst (dCons (dFrz (dLst (dCons (dC (.bool true)) (dCons (dC (.bool false)) (dCons (dC (.bool true)) dNil))))) (dCons (dFrz (dLst (dCons (dC (.bool false)) (dCons (d2 opMul (dTup (dCons (dC (.int 250)) dNil)) (dC (.int 16))) dNil)))) dNil)))))) (sSeq (sExpr (dApp 3 (dHeard errs ts__law_rw_heard 5 1 (dCall 2 m_made_row (daD (dC (.int 17)) (daD (dTup dNil) daNil)))))) (sSeq (sExpr (dApp 3 (dHeard errs ts__law_rw_heard 5 1 (dCall 2 m_made_limits (daD (dC (.int 2)) (daD (dTup (dCons (dC (.int 250)) (dCons (dC (.int 251)) dNil))) daNil)))))) (sSeq (sExpr (dApp 3 (dHeard errs ts__law_rw_heard 5 1 (dCall 2 m_made_row (daD (dC (.int 2)) (daD (dTup (dCons (dC (.int 1)) (dCons (d2 opAdd (dVar 2) (dC (.int 1))) dNil))) daNil)))))) (sRet (dCall 2 (m__law_fb_same 12) (daD (dVar 3) (daD (d2 opAdd (dFrz (oLc (iSq (dVar 4)) (gNm 5) dYes (dTup (dCons (dC (.str "told")) (dCons (dVar 5) dNil))) [5])) (dFrz (dLst (dCons (dTup (dCons (dC (.str "BadMany")) (dCons (dC (.int 17)) dNil))) (dCons (dTup (dCons (dC (.str "BadLimits")) (dCons (dC (.int 1)) dNil))) (dCons (dTup (dCons (dC (.str "BadRow")) (dCons (dC (.int 1)) dNil))) dNil)))))) daNil))))))))))))))))))
def m__law_rw_hand_right : MF := mOf t__law_rw_hand_right 0 6
def t_law (ad : Addr) (ns : List Int) : TSd := (sSeq (sSetO 1 (oCallP 0 ad (m__law_pool ad ns))) (sSeq (sFor (iR1 (dC (.int 6))) (gNm 2) (sSeq (sSet 3 (dCall 2 m__law_one (daSo 1 (daD (dFrz (dLst (dCons (dC (.int 1)) (dCons (dC (.int 1)) (dCons (dC (.int 2)) (dCons (dC (.int 3)) (dCons (dC (.int 4)) (dCons (dC (.int 5)) (dCons (dC (.int 16)) dNil))))))))) daNil)))) (sSeq (sPar 4 5 (drD (dCall 2 m__law_rw_row (daSo 1 (daD (dVar 3) daNil))) (drD (dCall 2 m__law_rw_row (daSo 1 (daD (dVar 3) daNil))) drNil))) (sSeq (sSet 6 (dL fTup (dCons (dFrz (oLc (iSq (dVar 4)) (gNm 10) dYes (dL fMax (dCons (dC (.int 0)) (dCons (d2 opSub (dVar 10) (dCall 2 m__law_take (daSo 1 (daD (dC (.int 2)) daNil)))) dNil))) [10])) dNil))) (sSeq (sFor (iSq (d2 opAdd (dCall 2 m__law_rw_things (daSo 1 (daD (dVar 4) daNil))) (dFrz (dLst (dCons (dL fTup (dCons (dFrz (oLc (iSq (dVar 5)) (gNm 10) dYes (d2 opMod (dL fInt (dCons (dVar 10) dNil)) (dC (.int 251))) [10])) dNil)) dNil))))) (gNm 7) (sIf (dNot (dTru (dCall 2 m__law_rw_forms_right (daD (dVar 3) (daD (dVar 7) daNil))))) (sRet (dC (.bool false))) sNext)) (sSeq (sSet 8 (dCall 2 m__law_one (daSo 1 (daD (dFrz (dLst (dCons (dC (.int 0)) (dCons (dC (.int 1)) (dCons (dC (.int 2)) (dCons (dC (.int 999999)) (dCons (dC (.int 1000000)) (dCons (dCall 2 m__law_take (daSo 1 (daD (dC (.int 100)) daNil))) dNil)))))))) daNil)))) (sSeq (sFor (iSq (dFrz (dLst (dCons (dVar 5) (dCons (dVar 6) (dCons (dVar 4) dNil)))))) (gNm 9) (sIf (dOr (dNot (dTru (dCall 4 m__law_rw_told_right (daD (dVar 3) (daD (dVar 4) (daD (dVar 9) (daD (dVar 8) daNil))))))) (dNot (dTru (dCall 4 m__law_rw_told_right (daD (dVar 3) (daD (dVar 9) (daD (dVar 4) (daD (dVar 8) daNil)))))))) (sRet (dC (.bool false))) sNext)) (sSeq (sIf (dNot (dTru (dCall 4 m__law_rw_refused_right (daSo 1 (daD (dVar 3) (daD (dVar 4) (daD (dVar 5) daNil))))))) (sRet (dC (.bool false))) sNext) (sSeq (sSet 8 (dCall 2 m__law_take (daSo 1 (daD (dC (.int 251)) daNil)))) (sIf (dNot (dTru (dCall 2 (m__law_fb_same 12) (daD (dHeard errs ts__law_rw_heard 5 1 (dCall 2 m_even (daD (dVar 3) (daD (dVar 8) daNil)))) (daD (dTup (dCons (dC (.str "told")) (dCons (d2 opMul (dTup (dCons (dVar 8) dNil)) (dVar 3)) dNil))) daNil))))) (sRet (dC (.bool false))) sNext)))))))))) (sRet (dCall0 m__law_rw_hand_right))))
def m_law (ad : Addr) (ns : List Int) : MF := mOf (t_law ad ns) 1 11
end LW

set_option Elab.async false
set_option linter.all false
set_option maxRecDepth 100000
set_option maxHeartbeats 0

namespace LW
open PySem PySem.Spec PyProof.Rows L2 DL
structure Tx (K : PySem.W.Frag) (mg : Str → Option Value) : Prop where
  g_whole : mg "whole" = some (.ref (He.fAd K ("whole", none)))
  F_whole : FunC K "whole" "whole" s_whole (He.fAd K ("whole", none)) (fdOf K ("whole", none)) (.ref (He.codeOf K ("whole", none)))
  g_many : mg "many" = some (.ref (He.fAd K ("many", none)))
  F_many : FunC K "many" "many" s_many (He.fAd K ("many", none)) (fdOf K ("many", none)) (.ref (He.codeOf K ("many", none)))
  g_great : mg "great" = some (.ref (He.fAd K ("great", none)))
  F_great : FunC K "great" "great" s_great (He.fAd K ("great", none)) (fdOf K ("great", none)) (.ref (He.codeOf K ("great", none)))
  g_states_of : mg "states_of" = some (.ref (He.fAd K ("states_of", none)))
  F_states_of : FunC K "states_of" "states_of" s_states_of (He.fAd K ("states_of", none)) (fdOf K ("states_of", none)) (.ref (He.codeOf K ("states_of", none)))
  g_wrong_entry : mg "wrong_entry" = some (.ref (He.fAd K ("wrong_entry", none)))
  F_wrong_entry : FunC K "wrong_entry" "wrong_entry" s_wrong_entry (He.fAd K ("wrong_entry", none)) (fdOf K ("wrong_entry", none)) (.ref (He.codeOf K ("wrong_entry", none)))
  g_asked_row : mg "asked_row" = some (.ref (He.fAd K ("asked_row", none)))
  F_asked_row : FunC K "asked_row" "asked_row" s_asked_row (He.fAd K ("asked_row", none)) (fdOf K ("asked_row", none)) (.ref (He.codeOf K ("asked_row", none)))
  g_made_row : mg "made_row" = some (.ref (He.fAd K ("made_row", none)))
  F_made_row : FunC K "made_row" "made_row" s_made_row (He.fAd K ("made_row", none)) (fdOf K ("made_row", none)) (.ref (He.codeOf K ("made_row", none)))
  g_is_row : mg "is_row" = some (.ref (He.fAd K ("is_row", none)))
  F_is_row : FunC K "is_row" "is_row" s_is_row (He.fAd K ("is_row", none)) (fdOf K ("is_row", none)) (.ref (He.codeOf K ("is_row", none)))
  g_asked_limits : mg "asked_limits" = some (.ref (He.fAd K ("asked_limits", none)))
  F_asked_limits : FunC K "asked_limits" "asked_limits" s_asked_limits (He.fAd K ("asked_limits", none)) (fdOf K ("asked_limits", none)) (.ref (He.codeOf K ("asked_limits", none)))
  g_made_limits : mg "made_limits" = some (.ref (He.fAd K ("made_limits", none)))
  F_made_limits : FunC K "made_limits" "made_limits" s_made_limits (He.fAd K ("made_limits", none)) (fdOf K ("made_limits", none)) (.ref (He.codeOf K ("made_limits", none)))
  g_is_limits : mg "is_limits" = some (.ref (He.fAd K ("is_limits", none)))
  F_is_limits : FunC K "is_limits" "is_limits" s_is_limits (He.fAd K ("is_limits", none)) (fdOf K ("is_limits", none)) (.ref (He.codeOf K ("is_limits", none)))
  g_even : mg "even" = some (.ref (He.fAd K ("even", none)))
  F_even : FunC K "even" "even" s_even (He.fAd K ("even", none)) (fdOf K ("even", none)) (.ref (He.codeOf K ("even", none)))
  g_asked_rows : mg "asked_rows" = some (.ref (He.fAd K ("asked_rows", none)))
  F_asked_rows : FunC K "asked_rows" "asked_rows" s_asked_rows (He.fAd K ("asked_rows", none)) (fdOf K ("asked_rows", none)) (.ref (He.codeOf K ("asked_rows", none)))
  g_row_sum : mg "row_sum" = some (.ref (He.fAd K ("row_sum", none)))
  F_row_sum : FunC K "row_sum" "row_sum" s_row_sum (He.fAd K ("row_sum", none)) (fdOf K ("row_sum", none)) (.ref (He.codeOf K ("row_sum", none)))
  g_row_top : mg "row_top" = some (.ref (He.fAd K ("row_top", none)))
  F_row_top : FunC K "row_top" "row_top" s_row_top (He.fAd K ("row_top", none)) (fdOf K ("row_top", none)) (.ref (He.codeOf K ("row_top", none)))
  g_row_times : mg "row_times" = some (.ref (He.fAd K ("row_times", none)))
  F_row_times : FunC K "row_times" "row_times" s_row_times (He.fAd K ("row_times", none)) (fdOf K ("row_times", none)) (.ref (He.codeOf K ("row_times", none)))
  g_row_below : mg "row_below" = some (.ref (He.fAd K ("row_below", none)))
  F_row_below : FunC K "row_below" "row_below" s_row_below (He.fAd K ("row_below", none)) (fdOf K ("row_below", none)) (.ref (He.codeOf K ("row_below", none)))
  g__law_pool : mg "_law_pool" = some (.ref (He.fAd K ("_law_pool", none)))
  F__law_pool : FunC K "_law_pool" "_law_pool" s__law_pool (He.fAd K ("_law_pool", none)) (fdOf K ("_law_pool", none)) (.ref (He.codeOf K ("_law_pool", none)))
  g__law_take : mg "_law_take" = some (.ref (He.fAd K ("_law_take", none)))
  F__law_take : FunC K "_law_take" "_law_take" s__law_take (He.fAd K ("_law_take", none)) (fdOf K ("_law_take", none)) (.ref (He.codeOf K ("_law_take", none)))
  g__law_one : mg "_law_one" = some (.ref (He.fAd K ("_law_one", none)))
  F__law_one : FunC K "_law_one" "_law_one" s__law_one (He.fAd K ("_law_one", none)) (fdOf K ("_law_one", none)) (.ref (He.codeOf K ("_law_one", none)))
  g__law_fb_is : mg "_law_fb_is" = some (.ref (He.fAd K ("_law_fb_is", none)))
  F__law_fb_is : FunC K "_law_fb_is" "_law_fb_is" s__law_fb_is (He.fAd K ("_law_fb_is", none)) (fdOf K ("_law_fb_is", none)) (.ref (He.codeOf K ("_law_fb_is", none)))
  g__law_fb_same : mg "_law_fb_same" = some (.ref (He.fAd K ("_law_fb_same", none)))
  F__law_fb_same : FunC K "_law_fb_same" "_law_fb_same" s__law_fb_same (He.fAd K ("_law_fb_same", none)) (fdOf K ("_law_fb_same", none)) (.ref (He.codeOf K ("_law_fb_same", none)))
  g__law_fb_big : mg "_law_fb_big" = some (.ref (He.fAd K ("_law_fb_big", none)))
  F__law_fb_big : FunC K "_law_fb_big" "_law_fb_big" s__law_fb_big (He.fAd K ("_law_fb_big", none)) (fdOf K ("_law_fb_big", none)) (.ref (He.codeOf K ("_law_fb_big", none)))
  g__law_fb_bent : mg "_law_fb_bent" = some (.ref (He.fAd K ("_law_fb_bent", none)))
  F__law_fb_bent : FunC K "_law_fb_bent" "_law_fb_bent" s__law_fb_bent (He.fAd K ("_law_fb_bent", none)) (fdOf K ("_law_fb_bent", none)) (.ref (He.codeOf K ("_law_fb_bent", none)))
  g__law_rw_heard : mg "_law_rw_heard" = some (.ref (He.fAd K ("_law_rw_heard", none)))
  F__law_rw_heard : FunC K "_law_rw_heard" "_law_rw_heard" s__law_rw_heard (He.fAd K ("_law_rw_heard", none)) (fdOf K ("_law_rw_heard", none)) (.ref (He.codeOf K ("_law_rw_heard", none)))
  g__law_rw_fault : mg "_law_rw_fault" = some (.ref (He.fAd K ("_law_rw_fault", none)))
  F__law_rw_fault : FunC K "_law_rw_fault" "_law_rw_fault" s__law_rw_fault (He.fAd K ("_law_rw_fault", none)) (fdOf K ("_law_rw_fault", none)) (.ref (He.codeOf K ("_law_rw_fault", none)))
  g__law_rw_row : mg "_law_rw_row" = some (.ref (He.fAd K ("_law_rw_row", none)))
  F__law_rw_row : FunC K "_law_rw_row" "_law_rw_row" s__law_rw_row (He.fAd K ("_law_rw_row", none)) (fdOf K ("_law_rw_row", none)) (.ref (He.codeOf K ("_law_rw_row", none)))
  g__law_rw_forms_right : mg "_law_rw_forms_right" = some (.ref (He.fAd K ("_law_rw_forms_right", none)))
  F__law_rw_forms_right : FunC K "_law_rw_forms_right" "_law_rw_forms_right" s__law_rw_forms_right (He.fAd K ("_law_rw_forms_right", none)) (fdOf K ("_law_rw_forms_right", none)) (.ref (He.codeOf K ("_law_rw_forms_right", none)))
  g__law_rw_things : mg "_law_rw_things" = some (.ref (He.fAd K ("_law_rw_things", none)))
  F__law_rw_things : FunC K "_law_rw_things" "_law_rw_things" s__law_rw_things (He.fAd K ("_law_rw_things", none)) (fdOf K ("_law_rw_things", none)) (.ref (He.codeOf K ("_law_rw_things", none)))
  g__law_rw_told_right : mg "_law_rw_told_right" = some (.ref (He.fAd K ("_law_rw_told_right", none)))
  F__law_rw_told_right : FunC K "_law_rw_told_right" "_law_rw_told_right" s__law_rw_told_right (He.fAd K ("_law_rw_told_right", none)) (fdOf K ("_law_rw_told_right", none)) (.ref (He.codeOf K ("_law_rw_told_right", none)))
  g__law_rw_refused_right : mg "_law_rw_refused_right" = some (.ref (He.fAd K ("_law_rw_refused_right", none)))
  F__law_rw_refused_right : FunC K "_law_rw_refused_right" "_law_rw_refused_right" s__law_rw_refused_right (He.fAd K ("_law_rw_refused_right", none)) (fdOf K ("_law_rw_refused_right", none)) (.ref (He.codeOf K ("_law_rw_refused_right", none)))
  g__law_rw_hand_right : mg "_law_rw_hand_right" = some (.ref (He.fAd K ("_law_rw_hand_right", none)))
  F__law_rw_hand_right : FunC K "_law_rw_hand_right" "_law_rw_hand_right" s__law_rw_hand_right (He.fAd K ("_law_rw_hand_right", none)) (fdOf K ("_law_rw_hand_right", none)) (.ref (He.codeOf K ("_law_rw_hand_right", none)))
  g_law : mg "law" = some (.ref (He.fAd K ("law", none)))
  F_law : FunC K "law" "law" s_law (He.fAd K ("law", none)) (fdOf K ("law", none)) (.ref (He.codeOf K ("law", none)))
  F_init : FunC K "__init__" "Refused.__init__" s_init (He.fAd K ("Refused", some "__init__")) (fdOf K ("Refused", some "__init__")) (.ref (He.codeOf K ("Refused", some "__init__")))
  n_ValueError : mg "ValueError" = none
  n_bool : mg "bool" = none
  n_enumerate : mg "enumerate" = none
  n_int : mg "int" = none
  n_isinstance : mg "isinstance" = none
  n_len : mg "len" = none
  n_list : mg "list" = none
  n_max : mg "max" = none
  n_range : mg "range" = none
  n_str : mg "str" = none
  n_tuple : mg "tuple" = none
  c_MOST_STATES : ∃ t, mg "MOST_STATES" = some (.int 16 t)
  c_MOST_LIMIT : ∃ t, mg "MOST_LIMIT" = some (.int 250 t)
  c_MOST_TIMES : ∃ t, mg "MOST_TIMES" = some (.int 1000000 t)
  e : ∀ c ∈ errs, ErrK K mg "Refused" c
  k : ∀ c ∈ errs, ∀ d ∈ asked, PySem.W.kitOne K (.ref (He.ga K c)) (.ref (He.ga K d)) = some (isE c d)
  ve : PySem.W.findCls K (.type "ValueError") (.type "type") "__init__" = some (.val (.builtin "ValueError.__init__"))
  nd : ndT K tf = true
section
variable {P : Program} {w : World} {K : PySem.W.Frag} {mg : Str → Option Value} {base : Heap} {CX : CXT}
theorem sc_init : FnScope ["self", "what"] ["self", "what"] (defScope s_init) := ⟨rfl, rfl, rfl, by decide +kernel, rfl, by decide +kernel, by decide +kernel⟩
theorem bd_init (T : Tx K mg) : Binds K (fdOf K ("Refused", some "__init__")) ["self", "what"] [] := T.F_init.binds fun _ _ _ _ _ us hl => match us, hl with | [_, _], _ => rfl
theorem init_T (T : Tx K mg) : FnOk P w K mg base CX 1 (He.ma K (He.ga K "Refused") "__init__") (fdOf K ("Refused", some "__init__")) ["self", "what"] (spI K) := init_ok T.F_init sc_init rfl rfl rfl (.inl rfl) (.inl rfl) rfl T.n_ValueError T.ve (fun _ => ⟨_, rfl⟩) rfl
theorem sc_whole : FnScope ["thing", "low", "high"] ["thing", "low", "high"] (defScope s_whole) := ⟨rfl, rfl, rfl, by decide +kernel, rfl, by decide +kernel, by decide +kernel⟩
theorem bd_whole (T : Tx K mg) : Binds K (fdOf K ("whole", none)) ["thing", "low", "high"] [] := T.F_whole.binds fun _ _ _ _ _ us hl => match us, hl with | [_, _, _], _ => rfl
theorem ok_whole (T : Tx K mg) (B : TB K mg base tf) : FnOk P w K mg base (L2N.CX P w) 1 (He.fAd K ("whole", none)) (fdOf K ("whole", none)) ["thing", "low", "high"] (spD K mg (TTof K tf) 3 m_whole) :=
  fn_ok (N := ["thing", "low", "high"]) T.F_whole sc_whole fun A outer s H E Z hr hT tk pp => ((dss_one (ds_ret (de_and (de_isi isi_int rfl T.n_isinstance rfl T.n_int (by decide +kernel) (dv (i := 0))) (de_and (de_not (de_isi isi_bool rfl T.n_isinstance rfl T.n_bool (by decide +kernel) (dv (i := 0)))) (de_one (de_chain op_le v2_le op_le v2_le (dv (i := 1)) (dv (i := 0)) (dv (i := 2)))))))))
theorem sc_many : FnScope ["thing", "low", "high"] ["thing", "low", "high"] (defScope s_many) := ⟨rfl, rfl, rfl, by decide +kernel, rfl, by decide +kernel, by decide +kernel⟩
theorem bd_many (T : Tx K mg) : Binds K (fdOf K ("many", none)) ["thing", "low", "high"] [] := T.F_many.binds fun _ _ _ _ _ us hl => match us, hl with | [_, _, _], _ => rfl
theorem ok_many (T : Tx K mg) (B : TB K mg base tf) : FnOk P w K mg base (L2N.CX P w) 3 (He.fAd K ("many", none)) (fdOf K ("many", none)) ["thing", "low", "high"] (spD K mg (TTof K tf) 3 m_many) :=
  fn_ok (N := ["thing", "low", "high"]) T.F_many sc_many fun A outer s H E Z hr hT tk pp => ((dss_one (ds_if (dt_not (dt_tru (de_call (ok_whole T B) hT (hr.mono (by first | decide | omega)) rfl T.g_whole T.F_whole.kp (bd_whole T) tk (da_d (dv (i := 0)) (da_d (dv (i := 1)) (da_d (dv (i := 2)) da_nil)))))) (dss_one (ds_raise rfl tk (T.e "BadMany" (by decide +kernel)).err (init_T T) (hr.mono (by decide)) (bd_init T) passE rfl (dv (i := 0)))) dss_nil)))
theorem sc_great : FnScope ["found", "_"] [] (defScope s_great) := ⟨rfl, rfl, rfl, by decide +kernel, rfl, by decide +kernel, by decide +kernel⟩
theorem bd_great (T : Tx K mg) : Binds K (fdOf K ("great", none)) [] [] := T.F_great.binds fun _ _ _ _ _ us hl => match us, hl with | [], _ => rfl
theorem ok_great (T : Tx K mg) (B : TB K mg base tf) : FnOk P w K mg base (L2N.CX P w) 1 (He.fAd K ("great", none)) (fdOf K ("great", none)) [] (spD K mg (TTof K tf) 0 m_great) :=
  fn_ok (N := ["found", "_"]) T.F_great sc_great fun A outer s H E Z hr hT tk pp => ((dss_cons (ds_set (i := 0) sc_great.nd rfl (.inl rfl) de_int) (dss_cons (ds_for pp rfl (di_range1 rfl T.n_range de_int) (dgv sc_great.nd (i := 1)) (dss_one (ds_set (i := 0) sc_great.nd rfl (.inl rfl) (de_op op_mulA v2_mul (dv (i := 0)) (de_op op_pow v2_pow de_int de_int))))) (dss_one (ds_ret (dv (i := 0)))))))
theorem sc_states_of : FnScope ["n"] ["n"] (defScope s_states_of) := ⟨rfl, rfl, rfl, by decide +kernel, rfl, by decide +kernel, by decide +kernel⟩
theorem bd_states_of (T : Tx K mg) : Binds K (fdOf K ("states_of", none)) ["n"] [] := T.F_states_of.binds fun _ _ _ _ _ us hl => match us, hl with | [_], _ => rfl
theorem ok_states_of (T : Tx K mg) (B : TB K mg base tf) : FnOk P w K mg base (L2N.CX P w) 4 (He.fAd K ("states_of", none)) (fdOf K ("states_of", none)) ["n"] (spD K mg (TTof K tf) 1 m_states_of) :=
  fn_ok (N := ["n"]) T.F_states_of sc_states_of fun A outer s H E Z hr hT tk pp => ((dss_cons (ds_expr (de_call (ok_many T B) hT (hr.mono (by first | decide | omega)) rfl T.g_many T.F_many.kp (bd_many T) tk (da_d (dv (i := 0)) (da_d de_int (da_d (de_glob (v := .int 16) rfl T.c_MOST_STATES.choose_spec ⟨_, rfl⟩ fun _ => .int _) da_nil))))) (dss_one (ds_ret (dv (i := 0))))))
theorem sc_wrong_entry : FnScope ["n", "thing", "high", "at", "one"] ["n", "thing", "high"] (defScope s_wrong_entry) := ⟨rfl, rfl, rfl, by decide +kernel, rfl, by decide +kernel, by decide +kernel⟩
theorem bd_wrong_entry (T : Tx K mg) : Binds K (fdOf K ("wrong_entry", none)) ["n", "thing", "high"] [] := T.F_wrong_entry.binds fun _ _ _ _ _ us hl => match us, hl with | [_, _, _], _ => rfl
theorem ok_wrong_entry (T : Tx K mg) (B : TB K mg base tf) : FnOk P w K mg base (L2N.CX P w) 2 (He.fAd K ("wrong_entry", none)) (fdOf K ("wrong_entry", none)) ["n", "thing", "high"] (spD K mg (TTof K tf) 3 m_wrong_entry) :=
  fn_ok (N := ["n", "thing", "high", "at", "one"]) T.F_wrong_entry sc_wrong_entry fun A outer s H E Z hr hT tk pp => ((dss_cons (ds_if (DW.dt (dw_or (dt_not (dt_tru (de_isi isi_tup rfl T.n_isinstance rfl T.n_tuple (by decide +kernel) (dv (i := 1))))) (dw_or1 (dt_cmp (op_neP (room_hu hr)) v2_ne (de_callB cr_len vl_len rfl T.n_len (by decide +kernel) (dl_cons (dv (i := 1)) dl_nil)) (dv (i := 0)) rfl)))) (dss_one (ds_ret (de_un un_neg v1_neg de_int))) dss_nil) (dss_cons (ds_for pp rfl (di_enum rfl T.n_enumerate (dv (i := 1))) (dg_tup rfl (dgs_cons (dgv sc_wrong_entry.nd (i := 3)) (dgs_cons (dgv sc_wrong_entry.nd (i := 4)) dgs_nil))) (dss_one (ds_if (dt_not (dt_tru (de_call (ok_whole T B) hT (hr.mono (by first | decide | omega)) rfl T.g_whole T.F_whole.kp (bd_whole T) tk (da_d (dv (i := 4)) (da_d de_int (da_d (dv (i := 2)) da_nil)))))) (dss_one (ds_ret (dv (i := 3)))) dss_nil))) (dss_one (ds_ret de_non)))))
theorem sc_asked_row : FnScope ["n", "row", "wrong"] ["n", "row"] (defScope s_asked_row) := ⟨rfl, rfl, rfl, by decide +kernel, rfl, by decide +kernel, by decide +kernel⟩
theorem bd_asked_row (T : Tx K mg) : Binds K (fdOf K ("asked_row", none)) ["n", "row"] [] := T.F_asked_row.binds fun _ _ _ _ _ us hl => match us, hl with | [_, _], _ => rfl
theorem ok_asked_row (T : Tx K mg) (B : TB K mg base tf) : FnOk P w K mg base (L2N.CX P w) 5 (He.fAd K ("asked_row", none)) (fdOf K ("asked_row", none)) ["n", "row"] (spD K mg (TTof K tf) 2 m_asked_row) :=
  fn_ok (N := ["n", "row", "wrong"]) T.F_asked_row sc_asked_row fun A outer s H E Z hr hT tk pp => ((dss_cons (ds_expr (de_call (ok_states_of T B) hT (hr.mono (by first | decide | omega)) rfl T.g_states_of T.F_states_of.kp (bd_states_of T) tk (da_d (dv (i := 0)) da_nil))) (dss_cons (ds_set (i := 2) sc_asked_row.nd rfl (.inl rfl) (de_call (ok_wrong_entry T B) hT (hr.mono (by first | decide | omega)) rfl T.g_wrong_entry T.F_wrong_entry.kp (bd_wrong_entry T) tk (da_d (dv (i := 0)) (da_d (dv (i := 1)) (da_d (de_call0 (ok_great T B) hT (hr.mono (by decide)) rfl T.g_great T.F_great.kp (bd_great T)) da_nil))))) (dss_cons (ds_if (dt_cmp op_notN v2_notN (dv (i := 2)) de_non rfl) (dss_one (ds_raise rfl tk (T.e "BadRow" (by decide +kernel)).err (init_T T) (hr.mono (by decide)) (bd_init T) passE rfl (dv (i := 2)))) dss_nil) (dss_one (ds_ret (dv (i := 1))))))))
theorem sc_made_row : FnScope ["n", "thing"] ["n", "thing"] (defScope s_made_row) := ⟨rfl, rfl, rfl, by decide +kernel, rfl, by decide +kernel, by decide +kernel⟩
theorem bd_made_row (T : Tx K mg) : Binds K (fdOf K ("made_row", none)) ["n", "thing"] [] := T.F_made_row.binds fun _ _ _ _ _ us hl => match us, hl with | [_, _], _ => rfl
theorem ok_made_row (T : Tx K mg) (B : TB K mg base tf) : FnOk P w K mg base (L2N.CX P w) 6 (He.fAd K ("made_row", none)) (fdOf K ("made_row", none)) ["n", "thing"] (spD K mg (TTof K tf) 2 m_made_row) :=
  fn_ok (N := ["n", "thing"]) T.F_made_row sc_made_row fun A outer s H E Z hr hT tk pp => ((dss_one (ds_ret (de_call (ok_asked_row T B) hT (hr.mono (by first | decide | omega)) rfl T.g_asked_row T.F_asked_row.kp (bd_asked_row T) tk (da_d (dv (i := 0)) (da_d (dv (i := 1)) da_nil))))))
theorem sc_is_row : FnScope ["n", "thing"] ["n", "thing"] (defScope s_is_row) := ⟨rfl, rfl, rfl, by decide +kernel, rfl, by decide +kernel, by decide +kernel⟩
theorem bd_is_row (T : Tx K mg) : Binds K (fdOf K ("is_row", none)) ["n", "thing"] [] := T.F_is_row.binds fun _ _ _ _ _ us hl => match us, hl with | [_, _], _ => rfl
theorem ok_is_row (T : Tx K mg) (B : TB K mg base tf) : FnOk P w K mg base (L2N.CX P w) 5 (He.fAd K ("is_row", none)) (fdOf K ("is_row", none)) ["n", "thing"] (spD K mg (TTof K tf) 2 m_is_row) :=
  fn_ok (N := ["n", "thing"]) T.F_is_row sc_is_row fun A outer s H E Z hr hT tk pp => ((dss_one (ds_ret (de_cmp op_isN v2_isN (de_call (ok_wrong_entry T B) hT (hr.mono (by first | decide | omega)) rfl T.g_wrong_entry T.F_wrong_entry.kp (bd_wrong_entry T) tk (da_d (de_call (ok_states_of T B) hT (hr.mono (by first | decide | omega)) rfl T.g_states_of T.F_states_of.kp (bd_states_of T) tk (da_d (dv (i := 0)) da_nil)) (da_d (dv (i := 1)) (da_d (de_call0 (ok_great T B) hT (hr.mono (by decide)) rfl T.g_great T.F_great.kp (bd_great T)) da_nil)))) de_non rfl))))
theorem sc_asked_limits : FnScope ["n", "limits", "wrong"] ["n", "limits"] (defScope s_asked_limits) := ⟨rfl, rfl, rfl, by decide +kernel, rfl, by decide +kernel, by decide +kernel⟩
theorem bd_asked_limits (T : Tx K mg) : Binds K (fdOf K ("asked_limits", none)) ["n", "limits"] [] := T.F_asked_limits.binds fun _ _ _ _ _ us hl => match us, hl with | [_, _], _ => rfl
theorem ok_asked_limits (T : Tx K mg) (B : TB K mg base tf) : FnOk P w K mg base (L2N.CX P w) 5 (He.fAd K ("asked_limits", none)) (fdOf K ("asked_limits", none)) ["n", "limits"] (spD K mg (TTof K tf) 2 m_asked_limits) :=
  fn_ok (N := ["n", "limits", "wrong"]) T.F_asked_limits sc_asked_limits fun A outer s H E Z hr hT tk pp => ((dss_cons (ds_expr (de_call (ok_states_of T B) hT (hr.mono (by first | decide | omega)) rfl T.g_states_of T.F_states_of.kp (bd_states_of T) tk (da_d (dv (i := 0)) da_nil))) (dss_cons (ds_set (i := 2) sc_asked_limits.nd rfl (.inl rfl) (de_call (ok_wrong_entry T B) hT (hr.mono (by first | decide | omega)) rfl T.g_wrong_entry T.F_wrong_entry.kp (bd_wrong_entry T) tk (da_d (dv (i := 0)) (da_d (dv (i := 1)) (da_d (de_glob (v := .int 250) rfl T.c_MOST_LIMIT.choose_spec ⟨_, rfl⟩ fun _ => .int _) da_nil))))) (dss_cons (ds_if (dt_cmp op_notN v2_notN (dv (i := 2)) de_non rfl) (dss_one (ds_raise rfl tk (T.e "BadLimits" (by decide +kernel)).err (init_T T) (hr.mono (by decide)) (bd_init T) passE rfl (dv (i := 2)))) dss_nil) (dss_one (ds_ret (dv (i := 1))))))))
theorem sc_made_limits : FnScope ["n", "thing"] ["n", "thing"] (defScope s_made_limits) := ⟨rfl, rfl, rfl, by decide +kernel, rfl, by decide +kernel, by decide +kernel⟩
theorem bd_made_limits (T : Tx K mg) : Binds K (fdOf K ("made_limits", none)) ["n", "thing"] [] := T.F_made_limits.binds fun _ _ _ _ _ us hl => match us, hl with | [_, _], _ => rfl
theorem ok_made_limits (T : Tx K mg) (B : TB K mg base tf) : FnOk P w K mg base (L2N.CX P w) 6 (He.fAd K ("made_limits", none)) (fdOf K ("made_limits", none)) ["n", "thing"] (spD K mg (TTof K tf) 2 m_made_limits) :=
  fn_ok (N := ["n", "thing"]) T.F_made_limits sc_made_limits fun A outer s H E Z hr hT tk pp => ((dss_one (ds_ret (de_call (ok_asked_limits T B) hT (hr.mono (by first | decide | omega)) rfl T.g_asked_limits T.F_asked_limits.kp (bd_asked_limits T) tk (da_d (dv (i := 0)) (da_d (dv (i := 1)) da_nil))))))
theorem sc_is_limits : FnScope ["n", "thing"] ["n", "thing"] (defScope s_is_limits) := ⟨rfl, rfl, rfl, by decide +kernel, rfl, by decide +kernel, by decide +kernel⟩
theorem bd_is_limits (T : Tx K mg) : Binds K (fdOf K ("is_limits", none)) ["n", "thing"] [] := T.F_is_limits.binds fun _ _ _ _ _ us hl => match us, hl with | [_, _], _ => rfl
theorem ok_is_limits (T : Tx K mg) (B : TB K mg base tf) : FnOk P w K mg base (L2N.CX P w) 5 (He.fAd K ("is_limits", none)) (fdOf K ("is_limits", none)) ["n", "thing"] (spD K mg (TTof K tf) 2 m_is_limits) :=
  fn_ok (N := ["n", "thing"]) T.F_is_limits sc_is_limits fun A outer s H E Z hr hT tk pp => ((dss_one (ds_ret (de_cmp op_isN v2_isN (de_call (ok_wrong_entry T B) hT (hr.mono (by first | decide | omega)) rfl T.g_wrong_entry T.F_wrong_entry.kp (bd_wrong_entry T) tk (da_d (de_call (ok_states_of T B) hT (hr.mono (by first | decide | omega)) rfl T.g_states_of T.F_states_of.kp (bd_states_of T) tk (da_d (dv (i := 0)) da_nil)) (da_d (dv (i := 1)) (da_d (de_glob (v := .int 250) rfl T.c_MOST_LIMIT.choose_spec ⟨_, rfl⟩ fun _ => .int _) da_nil)))) de_non rfl))))
theorem sc_even : FnScope ["n", "k"] ["n", "k"] (defScope s_even) := ⟨rfl, rfl, rfl, by decide +kernel, rfl, by decide +kernel, by decide +kernel⟩
theorem bd_even (T : Tx K mg) : Binds K (fdOf K ("even", none)) ["n", "k"] [] := T.F_even.binds fun _ _ _ _ _ us hl => match us, hl with | [_, _], _ => rfl
theorem ok_even (T : Tx K mg) (B : TB K mg base tf) : FnOk P w K mg base (L2N.CX P w) 5 (He.fAd K ("even", none)) (fdOf K ("even", none)) ["n", "k"] (spD K mg (TTof K tf) 2 m_even) :=
  fn_ok (N := ["n", "k"]) T.F_even sc_even fun A outer s H E Z hr hT tk pp => ((dss_cons (ds_expr (de_call (ok_states_of T B) hT (hr.mono (by first | decide | omega)) rfl T.g_states_of T.F_states_of.kp (bd_states_of T) tk (da_d (dv (i := 0)) da_nil))) (dss_cons (ds_expr (de_call (ok_many T B) hT (hr.mono (by first | decide | omega)) rfl T.g_many T.F_many.kp (bd_many T) tk (da_d (dv (i := 1)) (da_d de_int (da_d (de_glob (v := .int 250) rfl T.c_MOST_LIMIT.choose_spec ⟨_, rfl⟩ fun _ => .int _) da_nil))))) (dss_one (ds_ret (de_op op_mulA v2_mul (de_tup (dl_cons (dv (i := 1)) dl_nil)) (dv (i := 0))))))))
theorem sc_asked_rows : FnScope ["n", "one", "two"] ["n", "one", "two"] (defScope s_asked_rows) := ⟨rfl, rfl, rfl, by decide +kernel, rfl, by decide +kernel, by decide +kernel⟩
theorem bd_asked_rows (T : Tx K mg) : Binds K (fdOf K ("asked_rows", none)) ["n", "one", "two"] [] := T.F_asked_rows.binds fun _ _ _ _ _ us hl => match us, hl with | [_, _, _], _ => rfl
theorem ok_asked_rows (T : Tx K mg) (B : TB K mg base tf) : FnOk P w K mg base (L2N.CX P w) 6 (He.fAd K ("asked_rows", none)) (fdOf K ("asked_rows", none)) ["n", "one", "two"] (spD K mg (TTof K tf) 3 m_asked_rows) :=
  fn_ok (N := ["n", "one", "two"]) T.F_asked_rows sc_asked_rows fun A outer s H E Z hr hT tk pp => ((dss_cons (ds_expr (de_call (ok_asked_row T B) hT (hr.mono (by first | decide | omega)) rfl T.g_asked_row T.F_asked_row.kp (bd_asked_row T) tk (da_d (dv (i := 0)) (da_d (dv (i := 1)) da_nil)))) (dss_one (ds_expr (de_call (ok_asked_row T B) hT (hr.mono (by first | decide | omega)) rfl T.g_asked_row T.F_asked_row.kp (bd_asked_row T) tk (da_d (dv (i := 0)) (da_d (dv (i := 2)) da_nil)))))))
theorem sc_row_sum : FnScope ["n", "one", "two", "s"] ["n", "one", "two"] (defScope s_row_sum) := ⟨rfl, rfl, rfl, by decide +kernel, rfl, by decide +kernel, by decide +kernel⟩
theorem bd_row_sum (T : Tx K mg) : Binds K (fdOf K ("row_sum", none)) ["n", "one", "two"] [] := T.F_row_sum.binds fun _ _ _ _ _ us hl => match us, hl with | [_, _, _], _ => rfl
theorem ok_row_sum (T : Tx K mg) (B : TB K mg base tf) : FnOk P w K mg base (L2N.CX P w) 7 (He.fAd K ("row_sum", none)) (fdOf K ("row_sum", none)) ["n", "one", "two"] (spD K mg (TTof K tf) 3 m_row_sum) :=
  fn_ok (N := ["n", "one", "two", "s"]) T.F_row_sum sc_row_sum fun A outer s H E Z hr hT tk pp => ((dss_cons (ds_expr (de_call (ok_asked_rows T B) hT (hr.mono (by first | decide | omega)) rfl T.g_asked_rows T.F_asked_rows.kp (bd_asked_rows T) tk (da_d (dv (i := 0)) (da_d (dv (i := 1)) (da_d (dv (i := 2)) da_nil))))) (dss_one (ds_ret (de_callT call_tuple_of vl_tup rfl T.n_tuple (by decide +kernel) (dl_cons (DO.frz (do_lc (own := [("s", 3)]) rfl sc_row_sum.nd (di_range1 rfl T.n_range (dv (i := 0))) (blk_by (by kernel_rfl)) (by decide) (fun s H C cl fp => (dgv sc_row_sum.nd (i := 3))) (fun s H C cl fp => dts_nil) (fun s H C cl fp => (de_op op_addA v2_add (de_ix ix_seq v2_ix (dv (i := 1)) (dv (i := 3)) (fun _ _ => rfl)) (de_ix ix_seq v2_ix (dv (i := 2)) (dv (i := 3)) (fun _ _ => rfl)))))) dl_nil))))))
theorem sc_row_top : FnScope ["n", "one", "two", "s"] ["n", "one", "two"] (defScope s_row_top) := ⟨rfl, rfl, rfl, by decide +kernel, rfl, by decide +kernel, by decide +kernel⟩
theorem bd_row_top (T : Tx K mg) : Binds K (fdOf K ("row_top", none)) ["n", "one", "two"] [] := T.F_row_top.binds fun _ _ _ _ _ us hl => match us, hl with | [_, _, _], _ => rfl
theorem ok_row_top (T : Tx K mg) (B : TB K mg base tf) : FnOk P w K mg base (L2N.CX P w) 7 (He.fAd K ("row_top", none)) (fdOf K ("row_top", none)) ["n", "one", "two"] (spD K mg (TTof K tf) 3 m_row_top) :=
  fn_ok (N := ["n", "one", "two", "s"]) T.F_row_top sc_row_top fun A outer s H E Z hr hT tk pp => ((dss_cons (ds_expr (de_call (ok_asked_rows T B) hT (hr.mono (by first | decide | omega)) rfl T.g_asked_rows T.F_asked_rows.kp (bd_asked_rows T) tk (da_d (dv (i := 0)) (da_d (dv (i := 1)) (da_d (dv (i := 2)) da_nil))))) (dss_one (ds_ret (de_callT call_tuple_of vl_tup rfl T.n_tuple (by decide +kernel) (dl_cons (DO.frz (do_lc (own := [("s", 3)]) rfl sc_row_top.nd (di_range1 rfl T.n_range (dv (i := 0))) (blk_by (by kernel_rfl)) (by decide) (fun s H C cl fp => (dgv sc_row_top.nd (i := 3))) (fun s H C cl fp => dts_nil) (fun s H C cl fp => (de_callB (call_max2 rfl) vl_max rfl T.n_max (by decide +kernel) (dl_cons (de_ix ix_seq v2_ix (dv (i := 1)) (dv (i := 3)) (fun _ _ => rfl)) (dl_cons (de_ix ix_seq v2_ix (dv (i := 2)) (dv (i := 3)) (fun _ _ => rfl)) dl_nil)))))) dl_nil))))))
theorem sc_row_times : FnScope ["n", "row", "k", "entry"] ["n", "row", "k"] (defScope s_row_times) := ⟨rfl, rfl, rfl, by decide +kernel, rfl, by decide +kernel, by decide +kernel⟩
theorem bd_row_times (T : Tx K mg) : Binds K (fdOf K ("row_times", none)) ["n", "row", "k"] [] := T.F_row_times.binds fun _ _ _ _ _ us hl => match us, hl with | [_, _, _], _ => rfl
theorem ok_row_times (T : Tx K mg) (B : TB K mg base tf) : FnOk P w K mg base (L2N.CX P w) 6 (He.fAd K ("row_times", none)) (fdOf K ("row_times", none)) ["n", "row", "k"] (spD K mg (TTof K tf) 3 m_row_times) :=
  fn_ok (N := ["n", "row", "k", "entry"]) T.F_row_times sc_row_times fun A outer s H E Z hr hT tk pp => ((dss_cons (ds_expr (de_call (ok_asked_row T B) hT (hr.mono (by first | decide | omega)) rfl T.g_asked_row T.F_asked_row.kp (bd_asked_row T) tk (da_d (dv (i := 0)) (da_d (dv (i := 1)) da_nil)))) (dss_cons (ds_expr (de_call (ok_many T B) hT (hr.mono (by first | decide | omega)) rfl T.g_many T.F_many.kp (bd_many T) tk (da_d (dv (i := 2)) (da_d de_int (da_d (de_glob (v := .int 1000000) rfl T.c_MOST_TIMES.choose_spec ⟨_, rfl⟩ fun _ => .int _) da_nil))))) (dss_one (ds_ret (de_callT call_tuple_of vl_tup rfl T.n_tuple (by decide +kernel) (dl_cons (DO.frz (do_lc (own := [("entry", 3)]) rfl sc_row_times.nd (di_seq (dv (i := 1))) (blk_by (by kernel_rfl)) (by decide) (fun s H C cl fp => (dgv sc_row_times.nd (i := 3))) (fun s H C cl fp => dts_nil) (fun s H C cl fp => (de_op op_mulA v2_mul (dv (i := 2)) (dv (i := 3)))))) dl_nil)))))))
theorem sc_row_below : FnScope ["n", "one", "two", "s"] ["n", "one", "two"] (defScope s_row_below) := ⟨rfl, rfl, rfl, by decide +kernel, rfl, by decide +kernel, by decide +kernel⟩
theorem bd_row_below (T : Tx K mg) : Binds K (fdOf K ("row_below", none)) ["n", "one", "two"] [] := T.F_row_below.binds fun _ _ _ _ _ us hl => match us, hl with | [_, _, _], _ => rfl
theorem ok_row_below (T : Tx K mg) (B : TB K mg base tf) : FnOk P w K mg base (L2N.CX P w) 7 (He.fAd K ("row_below", none)) (fdOf K ("row_below", none)) ["n", "one", "two"] (spD K mg (TTof K tf) 3 m_row_below) :=
  fn_ok (N := ["n", "one", "two", "s"]) T.F_row_below sc_row_below fun A outer s H E Z hr hT tk pp => ((dss_cons (ds_expr (de_call (ok_asked_rows T B) hT (hr.mono (by first | decide | omega)) rfl T.g_asked_rows T.F_asked_rows.kp (bd_asked_rows T) tk (da_d (dv (i := 0)) (da_d (dv (i := 1)) (da_d (dv (i := 2)) da_nil))))) (dss_one (ds_ret (de_cmp (op_eqP (room_hu hr)) v2_eq (DO.frz (do_lc (own := [("s", 3)]) rfl sc_row_below.nd (di_range1 rfl T.n_range (dv (i := 0))) (blk_by (by kernel_rfl)) (by decide) (fun s H C cl fp => (dgv sc_row_below.nd (i := 3))) (fun s H C cl fp => (dts_one (dt_cmp op_gt v2_gt (de_ix ix_seq v2_ix (dv (i := 1)) (dv (i := 3)) (fun _ _ => rfl)) (de_ix ix_seq v2_ix (dv (i := 2)) (dv (i := 3)) (fun _ _ => rfl)) rfl))) (fun s H C cl fp => (dv (i := 3))))) (DO.frz (do_lst dl_nil)) rfl)))))
theorem sc__law_pool : FnScope ["script", "digits", "stirred", "at", "cell"] ["script"] (defScope s__law_pool) := ⟨rfl, rfl, rfl, by decide +kernel, rfl, by decide +kernel, by decide +kernel⟩
theorem bd__law_pool (T : Tx K mg) : Binds K (fdOf K ("_law_pool", none)) ["script"] [] := T.F__law_pool.binds fun _ _ _ _ _ us hl => match us, hl with | [_], _ => rfl
theorem ok__law_pool (T : Tx K mg) (B : TB K mg base tf) : FnOk P w K mg base (L2N.CX P w) 1 (He.fAd K ("_law_pool", none)) (fdOf K ("_law_pool", none)) ["script"] (spS K mg (TTof K tf) 1 m__law_pool) :=
  fn_okS fun ad ns => fn_okG (N := ["script", "digits", "stirred", "at", "cell"]) T.F__law_pool sc__law_pool fun A outer s H E Z hr hT hE tk pp => ((dss_cons (ds_asg (de_tup (dl_cons de_int (dl_cons de_int dl_nil))) (dg_tup rfl (dgs_cons (dgv sc__law_pool.nd (i := 1)) (dgs_cons (dgv sc__law_pool.nd (i := 2)) dgs_nil)))) (dss_cons (ds_for pp rfl (di_range1 rfl T.n_range (de_pinLen hE rfl T.n_len (tv (i := 0)))) (dgv sc__law_pool.nd (i := 3)) (dss_cons (ds_set (i := 4) sc__law_pool.nd rfl (.inl rfl) (de_callT call_int1 vl_int rfl T.n_int (by decide +kernel) (dl_cons (de_callB (call_max2 rfl) vl_max rfl T.n_max (by decide +kernel) (dl_cons (de_pinIx hE (tv (i := 0)) (dv (i := 3)) (fun _ _ => rfl)) (dl_cons (de_op op_sub v2_sub (de_un un_neg v1_neg de_int) (de_pinIx hE (tv (i := 0)) (dv (i := 3)) (fun _ _ => rfl))) dl_nil))) dl_nil))) (dss_cons (ds_set (i := 2) sc__law_pool.nd rfl (.inl rfl) (de_op op_mod v2_mod (de_callT call_int1 vl_int rfl T.n_int (by decide +kernel) (dl_cons (de_op op_addA v2_add (de_op op_addA v2_add (de_op op_mulA v2_mul (dv (i := 2)) de_int) (de_op op_mod v2_mod (dv (i := 4)) de_int)) de_int) dl_nil)) de_int)) (dss_one (ds_set (i := 1) sc__law_pool.nd rfl (.inl rfl) (de_if (DW.dt (dw_and (dt_cmp op_ge v2_ge (dv (i := 4)) (de_op op_pow v2_pow de_int de_int) rfl) (dw_and1 (dt_cmp op_lt v2_lt (dv (i := 1)) (de_op op_pow v2_pow de_int de_int) rfl)))) (de_callT call_int1 vl_int rfl T.n_int (by decide +kernel) (dl_cons (de_op op_addA v2_add (de_op op_mulA v2_mul (dv (i := 1)) (de_op op_pow v2_pow de_int de_int)) (de_op op_mod v2_mod (dv (i := 4)) (de_op op_pow v2_pow de_int de_int))) dl_nil)) (dv (i := 1)))))))) (dss_one (ds_retO (do_lst (dl_cons (dv (i := 1)) (dl_cons (dv (i := 2)) (dl_cons de_int dl_nil)))))))))
theorem sc__law_take : FnScope ["jar", "many_v", "made"] ["jar", "many_v"] (defScope s__law_take) := ⟨rfl, rfl, rfl, by decide +kernel, rfl, by decide +kernel, by decide +kernel⟩
theorem bd__law_take (T : Tx K mg) : Binds K (fdOf K ("_law_take", none)) ["jar", "many_v"] [] := T.F__law_take.binds fun _ _ _ _ _ us hl => match us, hl with | [_, _], _ => rfl
theorem ok__law_take (T : Tx K mg) (B : TB K mg base tf) : FnOk P w K mg base (L2N.CX P w) 1 (He.fAd K ("_law_take", none)) (fdOf K ("_law_take", none)) ["jar", "many_v"] (spD K mg (TTof K tf) 2 m__law_take) :=
  fn_ok (N := ["jar", "many_v", "made"]) T.F__law_take sc__law_take fun A outer s H E Z hr hT tk pp => ((dss_cons (ds_if (dt_cmp op_gt v2_gt (de_ixL (tv (i := 0)) de_int (fun _ _ => rfl)) de_int rfl) (dss_cons (ds_set (i := 2) sc__law_take.nd rfl (.inl rfl) (de_op op_mod v2_mod (de_callT call_int1 vl_int rfl T.n_int (by decide +kernel) (dl_cons (de_ixL (tv (i := 0)) de_int (fun _ _ => rfl)) dl_nil)) (dv (i := 1)))) (dss_cons (ds_put (tv (i := 0)) de_int (de_op op_fdivW v2_fdiv (de_ixL (tv (i := 0)) de_int (fun _ _ => rfl)) (dv (i := 1)))) (dss_one (ds_ret (dv (i := 2)))))) dss_nil) (dss_cons (ds_put (tv (i := 0)) de_int (de_op op_addA v2_add (de_ixL (tv (i := 0)) de_int (fun _ _ => rfl)) de_int)) (dss_cons (ds_put (tv (i := 0)) de_int (de_op op_mod v2_mod (de_callT call_int1 vl_int rfl T.n_int (by decide +kernel) (dl_cons (de_op op_addA v2_add (de_op op_addA v2_add (de_op op_mulA v2_mul (de_ixL (tv (i := 0)) de_int (fun _ _ => rfl)) de_int) (de_op op_mulA v2_mul de_int (de_ixL (tv (i := 0)) de_int (fun _ _ => rfl)))) de_int) dl_nil)) de_int)) (dss_one (ds_ret (de_op op_mod v2_mod (de_callT call_int1 vl_int rfl T.n_int (by decide +kernel) (dl_cons (de_op op_fdivW v2_fdiv (de_op op_mod v2_mod (de_callT call_int1 vl_int rfl T.n_int (by decide +kernel) (dl_cons (de_op op_mulA v2_mul (de_ixL (tv (i := 0)) de_int (fun _ _ => rfl)) (de_ixL (tv (i := 0)) de_int (fun _ _ => rfl))) dl_nil)) de_int) de_int) dl_nil)) (dv (i := 1)))))))))
theorem sc__law_one : FnScope ["jar", "things"] ["jar", "things"] (defScope s__law_one) := ⟨rfl, rfl, rfl, by decide +kernel, rfl, by decide +kernel, by decide +kernel⟩
theorem bd__law_one (T : Tx K mg) : Binds K (fdOf K ("_law_one", none)) ["jar", "things"] [] := T.F__law_one.binds fun _ _ _ _ _ us hl => match us, hl with | [_, _], _ => rfl
theorem ok__law_one (T : Tx K mg) (B : TB K mg base tf) : FnOk P w K mg base (L2N.CX P w) 2 (He.fAd K ("_law_one", none)) (fdOf K ("_law_one", none)) ["jar", "things"] (spD K mg (TTof K tf) 2 m__law_one) :=
  fn_ok (N := ["jar", "things"]) T.F__law_one sc__law_one fun A outer s H E Z hr hT tk pp => ((dss_one (ds_ret (de_ix ix_seq v2_ix (dv (i := 1)) (de_call (ok__law_take T B) hT (hr.mono (by first | decide | omega)) rfl T.g__law_take T.F__law_take.kp (bd__law_take T) tk (da_s (tv (i := 0)) (da_d (de_callB cr_len vl_len rfl T.n_len (by decide +kernel) (dl_cons (dv (i := 1)) dl_nil)) da_nil))) (fun _ _ => rfl)))))
theorem sc__law_fb_is : FnScope ["thing", "low", "high"] ["thing", "low", "high"] (defScope s__law_fb_is) := ⟨rfl, rfl, rfl, by decide +kernel, rfl, by decide +kernel, by decide +kernel⟩
theorem bd__law_fb_is (T : Tx K mg) : Binds K (fdOf K ("_law_fb_is", none)) ["thing", "low", "high"] [] := T.F__law_fb_is.binds fun _ _ _ _ _ us hl => match us, hl with | [_, _, _], _ => rfl
theorem ok__law_fb_is (T : Tx K mg) (B : TB K mg base tf) : FnOk P w K mg base (L2N.CX P w) 1 (He.fAd K ("_law_fb_is", none)) (fdOf K ("_law_fb_is", none)) ["thing", "low", "high"] (spD K mg (TTof K tf) 3 m__law_fb_is) :=
  fn_ok (N := ["thing", "low", "high"]) T.F__law_fb_is sc__law_fb_is fun A outer s H E Z hr hT tk pp => ((dss_one (ds_ret (de_and (de_isi isi_int rfl T.n_isinstance rfl T.n_int (by decide +kernel) (dv (i := 0))) (de_and (de_not (de_isi isi_bool rfl T.n_isinstance rfl T.n_bool (by decide +kernel) (dv (i := 0)))) (de_one (de_chain op_le v2_le op_le v2_le (dv (i := 1)) (dv (i := 0)) (dv (i := 2)))))))))
theorem sc__law_fb_same : FnScope ["told_now", "owed", "is_so", "at"] ["told_now", "owed"] (defScope s__law_fb_same) := ⟨rfl, rfl, rfl, by decide +kernel, rfl, by decide +kernel, by decide +kernel⟩
theorem bd__law_fb_same (T : Tx K mg) : Binds K (fdOf K ("_law_fb_same", none)) ["told_now", "owed"] [] := T.F__law_fb_same.binds fun _ _ _ _ _ us hl => match us, hl with | [_, _], _ => rfl
theorem okn__law_fb_same (T : Tx K mg) (B : TB K mg base tf) : ∀ fuel, FnOk P w K mg base (L2N.CX P w) (0 + fuel + 1) (He.fAd K ("_law_fb_same", none)) (fdOf K ("_law_fb_same", none)) ["told_now", "owed"] (spD K mg (TTof K tf) 2 (m__law_fb_same fuel))
  | 0 => fn_none
  | fuel + 1 => by
    have ih : FnOk P w K mg base (L2N.CX P w) (0 + fuel + 1) (He.fAd K ("_law_fb_same", none)) (fdOf K ("_law_fb_same", none)) ["told_now", "owed"] (spD K mg (TTof K tf) 2 (m__law_fb_same fuel)) := okn__law_fb_same T B fuel
    exact fn_ok (N := ["told_now", "owed", "is_so", "at"]) T.F__law_fb_same sc__law_fb_same fun A outer s H E Z hr hT tk pp => ((dss_cons (ds_if (dt_cmp op_isN v2_isN (dv (i := 1)) de_non rfl) (dss_one (ds_ret (de_cmp op_isN v2_isN (dv (i := 0)) de_non rfl))) dss_nil) (dss_cons (ds_if (dt_tru (de_isi isi_bool rfl T.n_isinstance rfl T.n_bool (by decide +kernel) (dv (i := 1)))) (dss_one (ds_ret (de_if (dt_tru (dv (i := 1))) (de_cmp op_isB v2_isB (dv (i := 0)) de_bl rfl) (de_cmp op_isB v2_isB (dv (i := 0)) de_bl rfl)))) dss_nil) (dss_cons (ds_if (dt_tru (de_isi isi_int rfl T.n_isinstance rfl T.n_int (by decide +kernel) (dv (i := 1)))) (dss_one (ds_ret (de_and (de_isi isi_int rfl T.n_isinstance rfl T.n_int (by decide +kernel) (dv (i := 0))) (de_and (de_not (de_isi isi_bool rfl T.n_isinstance rfl T.n_bool (by decide +kernel) (dv (i := 0)))) (de_one (de_cmp (op_eqP (room_hu hr)) v2_eq (dv (i := 0)) (dv (i := 1)) rfl)))))) dss_nil) (dss_cons (ds_if (dt_tru (de_isi isi_str rfl T.n_isinstance rfl T.n_str (by decide +kernel) (dv (i := 1)))) (dss_one (ds_ret (de_and (de_isi isi_str rfl T.n_isinstance rfl T.n_str (by decide +kernel) (dv (i := 0))) (de_one (de_cmp (op_eqP (room_hu hr)) v2_eq (dv (i := 0)) (dv (i := 1)) rfl))))) dss_nil) (dss_cons (ds_set (i := 2) sc__law_fb_same.nd rfl (.inl rfl) (de_if (dt_tru (de_isi isi_tup rfl T.n_isinstance rfl T.n_tuple (by decide +kernel) (dv (i := 1)))) (de_isi isi_tup rfl T.n_isinstance rfl T.n_tuple (by decide +kernel) (dv (i := 0))) (de_isi isi_lst rfl T.n_isinstance rfl T.n_list (by decide +kernel) (dv (i := 0))))) (dss_cons (ds_if (DW.dt (dw_or (dt_not (dt_tru (dv (i := 2)))) (dw_or1 (dt_cmp (op_neP (room_hu hr)) v2_ne (de_callB cr_len vl_len rfl T.n_len (by decide +kernel) (dl_cons (dv (i := 0)) dl_nil)) (de_callB cr_len vl_len rfl T.n_len (by decide +kernel) (dl_cons (dv (i := 1)) dl_nil)) rfl)))) (dss_one (ds_ret de_bl)) dss_nil) (dss_one (ds_ret (de_cmp (op_eqP (room_hu hr)) v2_eq (DO.frz (do_lc (own := [("at", 3)]) rfl sc__law_fb_same.nd (di_range1 rfl T.n_range (de_callB cr_len vl_len rfl T.n_len (by decide +kernel) (dl_cons (dv (i := 1)) dl_nil))) (blk_by (by kernel_rfl)) (by decide) (fun s H C cl fp => (dgv sc__law_fb_same.nd (i := 3))) (fun s H C cl fp => (dts_one (dt_not (dt_tru (de_call (ih) hT (hr.mono (by omega)) rfl T.g__law_fb_same T.F__law_fb_same.kp (bd__law_fb_same T) takesN0 (da_d (de_ix ix_seq v2_ix (dv (i := 0)) (dv (i := 3)) (fun _ _ => rfl)) (da_d (de_ix ix_seq v2_ix (dv (i := 1)) (dv (i := 3)) (fun _ _ => rfl)) da_nil))))))) (fun s H C cl fp => (dv (i := 3))))) (DO.frz (do_lst dl_nil)) rfl))))))))))
theorem ok__law_fb_same (T : Tx K mg) (B : TB K mg base tf) : FnOk P w K mg base (L2N.CX P w) 13 (He.fAd K ("_law_fb_same", none)) (fdOf K ("_law_fb_same", none)) ["told_now", "owed"] (spD K mg (TTof K tf) 2 (m__law_fb_same 12)) := okn__law_fb_same T B 12
theorem sc__law_fb_big : FnScope ["made", "go"] [] (defScope s__law_fb_big) := ⟨rfl, rfl, rfl, by decide +kernel, rfl, by decide +kernel, by decide +kernel⟩
theorem bd__law_fb_big (T : Tx K mg) : Binds K (fdOf K ("_law_fb_big", none)) [] [] := T.F__law_fb_big.binds fun _ _ _ _ _ us hl => match us, hl with | [], _ => rfl
theorem ok__law_fb_big (T : Tx K mg) (B : TB K mg base tf) : FnOk P w K mg base (L2N.CX P w) 1 (He.fAd K ("_law_fb_big", none)) (fdOf K ("_law_fb_big", none)) [] (spD K mg (TTof K tf) 0 m__law_fb_big) :=
  fn_ok (N := ["made", "go"]) T.F__law_fb_big sc__law_fb_big fun A outer s H E Z hr hT tk pp => ((dss_cons (ds_set (i := 0) sc__law_fb_big.nd rfl (.inl rfl) de_int) (dss_cons (ds_for pp rfl (di_range1 rfl T.n_range de_int) (dgv sc__law_fb_big.nd (i := 1)) (dss_one (ds_set (i := 0) sc__law_fb_big.nd rfl (.inl rfl) (de_op op_mulA v2_mul (dv (i := 0)) (de_op op_pow v2_pow de_int de_int))))) (dss_one (ds_ret (dv (i := 0)))))))
theorem sc__law_fb_bent : FnScope ["jar", "thing", "few_now", "odd", "at", "way_now", "others"] ["jar", "thing"] (defScope s__law_fb_bent) := ⟨rfl, rfl, rfl, by decide +kernel, rfl, by decide +kernel, by decide +kernel⟩
theorem bd__law_fb_bent (T : Tx K mg) : Binds K (fdOf K ("_law_fb_bent", none)) ["jar", "thing"] [] := T.F__law_fb_bent.binds fun _ _ _ _ _ us hl => match us, hl with | [_, _], _ => rfl
theorem okn__law_fb_bent (T : Tx K mg) (B : TB K mg base tf) : ∀ fuel, FnOk P w K mg base (L2N.CX P w) (2 + fuel + 1) (He.fAd K ("_law_fb_bent", none)) (fdOf K ("_law_fb_bent", none)) ["jar", "thing"] (spD K mg (TTof K tf) 2 (m__law_fb_bent fuel))
  | 0 => fn_none
  | fuel + 1 => by
    have ih : FnOk P w K mg base (L2N.CX P w) (2 + fuel + 1) (He.fAd K ("_law_fb_bent", none)) (fdOf K ("_law_fb_bent", none)) ["jar", "thing"] (spD K mg (TTof K tf) 2 (m__law_fb_bent fuel)) := okn__law_fb_bent T B fuel
    exact fn_ok (N := ["jar", "thing", "few_now", "odd", "at", "way_now", "others"]) T.F__law_fb_bent sc__law_fb_bent fun A outer s H E Z hr hT tk pp => ((dss_cons (ds_set (i := 2) sc__law_fb_bent.nd rfl (.inl rfl) (DO.frz (do_lst (dl_cons de_non (dl_cons de_bl (dl_cons de_bl (dl_cons (de_str (by decide +kernel)) (dl_cons (de_str (by decide +kernel)) (dl_cons (de_un un_neg v1_neg de_int) (dl_cons de_int (dl_cons de_int (dl_cons de_int (dl_cons de_int (dl_cons de_int (dl_cons (de_tup dl_nil) (dl_cons (de_tup (dl_cons de_int dl_nil)) (dl_cons (DO.frz (do_lst dl_nil)) (dl_cons (de_tup (dl_cons (de_str (by decide +kernel)) (dl_cons de_int dl_nil))) dl_nil)))))))))))))))))) (dss_cons (ds_set (i := 3) sc__law_fb_bent.nd rfl (.inl rfl) (de_call (ok__law_one T B) hT (hr.mono (by first | decide | omega)) rfl T.g__law_one T.F__law_one.kp (bd__law_one T) tk (da_s (tv (i := 0)) (da_d (dv (i := 2)) da_nil)))) (dss_cons (ds_if (DW.dt (dw_or (dt_not (dt_tru (de_isi isi_tup rfl T.n_isinstance rfl T.n_tuple (by decide +kernel) (dv (i := 1))))) (dw_or1 (dt_cmp (op_eqP (room_hu hr)) v2_eq (dv (i := 1)) (de_tup dl_nil) rfl)))) (dss_one (ds_ret (de_if (dt_tru (de_call (ok__law_fb_is T B) hT (hr.mono (by first | decide | omega)) rfl T.g__law_fb_is T.F__law_fb_is.kp (bd__law_fb_is T) tk (da_d (dv (i := 1)) (da_d (de_un un_neg v1_neg de_int) (da_d de_int da_nil))))) (de_call (ok__law_one T B) hT (hr.mono (by first | decide | omega)) rfl T.g__law_one T.F__law_one.kp (bd__law_one T) tk (da_s (tv (i := 0)) (da_d (DO.frz (do_lst (dl_cons (de_op op_addA v2_add (dv (i := 1)) de_int) (dl_cons (de_op op_sub v2_sub (dv (i := 1)) de_int) (dl_cons (dv (i := 3)) (dl_cons (de_tup (dl_cons (dv (i := 1)) dl_nil)) (dl_cons de_bl dl_nil))))))) da_nil))) (dv (i := 3))))) dss_nil) (dss_cons (ds_par (i := 4) (j := 5) rfl sc__law_fb_bent.nd rfl rfl (by decide) rfl rfl (dr_d (de_call (ok__law_take T B) hT (hr.mono (by first | decide | omega)) rfl T.g__law_take T.F__law_take.kp (bd__law_take T) tk (da_s (tv (i := 0)) (da_d (de_callB cr_len vl_len rfl T.n_len (by decide +kernel) (dl_cons (dv (i := 1)) dl_nil)) da_nil))) (dr_d (de_call (ok__law_take T B) hT (hr.mono (by first | decide | omega)) rfl T.g__law_take T.F__law_take.kp (bd__law_take T) tk (da_s (tv (i := 0)) (da_d de_int da_nil))) dr_nil))) (dss_cons (ds_if (dt_cmp op_lt v2_lt (dv (i := 5)) de_int rfl) (dss_one (ds_ret (de_op op_addA v2_add (de_op op_addA v2_add (de_sl (dv (i := 1)) dp_none (dp_some (dv (i := 4)))) (de_tup (dl_cons (de_call (ih) hT (hr.mono (by omega)) rfl T.g__law_fb_bent T.F__law_fb_bent.kp (bd__law_fb_bent T) tk (da_s (tv (i := 0)) (da_d (de_ix ix_seq v2_ix (dv (i := 1)) (dv (i := 4)) (fun _ _ => rfl)) da_nil))) dl_nil))) (de_sl (dv (i := 1)) (dp_some (de_op op_addA v2_add (dv (i := 4)) de_int)) dp_none)))) dss_nil) (dss_cons (ds_set (i := 6) sc__law_fb_bent.nd rfl (.inl rfl) (DO.frz (do_lst (dl_cons (de_op op_addA v2_add (de_sl (dv (i := 1)) dp_none (dp_some (dv (i := 4)))) (de_sl (dv (i := 1)) (dp_some (de_op op_addA v2_add (dv (i := 4)) de_int)) dp_none)) (dl_cons (de_op op_addA v2_add (de_sl (dv (i := 1)) dp_none (dp_some (de_op op_addA v2_add (dv (i := 4)) de_int))) (de_sl (dv (i := 1)) (dp_some (dv (i := 4))) dp_none)) (dl_cons (de_rev (dv (i := 1))) (dl_cons (de_callT call_list_of vl_lst rfl T.n_list (by decide +kernel) (dl_cons (dv (i := 1)) dl_nil)) dl_nil))))))) (dss_one (ds_ret (de_ix ix_seq v2_ix (dv (i := 6)) (de_op op_sub v2_sub (dv (i := 5)) de_int) (fun _ _ => rfl)))))))))))
theorem ok__law_fb_bent (T : Tx K mg) (B : TB K mg base tf) : FnOk P w K mg base (L2N.CX P w) 15 (He.fAd K ("_law_fb_bent", none)) (fdOf K ("_law_fb_bent", none)) ["jar", "thing"] (spD K mg (TTof K tf) 2 (m__law_fb_bent 12)) := okn__law_fb_bent T B 12
theorem sc__law_rw_heard : FnScope ["call", "refused_one", "few_now", "name", "is_one"] ["call"] (defScope s__law_rw_heard) := ⟨rfl, rfl, rfl, by decide +kernel, rfl, by decide +kernel, by decide +kernel⟩
theorem bd__law_rw_heard (T : Tx K mg) : Binds K (fdOf K ("_law_rw_heard", none)) ["call"] [] := T.F__law_rw_heard.binds fun _ _ _ _ _ us hl => match us, hl with | [_], _ => rfl
theorem hg__law_rw_heard {X : Cx} (T : Tx X.K X.mg) (q : Str) : GivesN X ["call", "refused_one", "few_now", "name", "is_one"] "_law_rw_heard" (defScope s__law_rw_heard) (He.fAd X.K ("_law_rw_heard", none)) (.ref (He.codeOf X.K ("_law_rw_heard", none))) (defBody s__law_rw_heard) "call" q (hTT X.K X.mg (TTof X.K tf) errs ts__law_rw_heard 5 1) := by
  refine heard_gives (Ng := ["call", "refused_one", "few_now", "name", "is_one"]) (i := 1) (n := "refused_one") (e := "Refused") (CR0 := He.ga X.K "Refused") rfl sc__law_rw_heard.nd rfl rfl rfl (T.e "Refused" (by decide +kernel)).err.mg (by decide) (fun c hc C hm => ?_) ?_
  · have e := hm.symm.trans (T.e c hc).err.mg
    cases e
    exact (T.e c hc).exm
  · intro x C dd a0 v oe pn G0 H0 s H hx hm hz hf gd hv
    have e := hm.symm.trans (T.e x.cls hx).err.mg
    cases e
    obtain ⟨vs0, hf0⟩ := id hf
    have hot0 : L2H.Hot1 (SuX (hCx X ["call", "refused_one", "few_now", "name", "is_one"] "_law_rw_heard" (defScope s__law_rw_heard) (He.fAd X.K ("_law_rw_heard", none)) (.ref (He.codeOf X.K ("_law_rw_heard", none))) s H).nox a0 oe pn).A (a0, oe) := ⟨rfl, vs0, hf0, hz.2.2 vs0 hf0⟩
    exact (dss_cons (ds_setO (i := 2) sc__law_rw_heard.nd rfl (.inl rfl) (do_lst dl_nil)) (dss_cons (ds_expr (de_app (tv (i := 2)) (de_tup (dl_cons (de_str (by decide +kernel)) (dl_cons (de_isE (T.e x.cls hx).exc hz.zc hf0 (T.k x.cls hx "BadLimits" (by decide +kernel)) gd (tv (i := 1)) rfl T.n_isinstance rfl (T.e "BadLimits" (by decide +kernel)).err.mg) dl_nil))))) (dss_cons (ds_expr (de_app (tv (i := 2)) (de_tup (dl_cons (de_str (by decide +kernel)) (dl_cons (de_isE (T.e x.cls hx).exc hz.zc hf0 (T.k x.cls hx "BadMany" (by decide +kernel)) gd (tv (i := 1)) rfl T.n_isinstance rfl (T.e "BadMany" (by decide +kernel)).err.mg) dl_nil))))) (dss_cons (ds_expr (de_app (tv (i := 2)) (de_tup (dl_cons (de_str (by decide +kernel)) (dl_cons (de_isE (T.e x.cls hx).exc hz.zc hf0 (T.k x.cls hx "BadRow" (by decide +kernel)) gd (tv (i := 1)) rfl T.n_isinstance rfl (T.e "BadRow" (by decide +kernel)).err.mg) dl_nil))))) (dss_one (ds_ret (de_tup (dl_cons (de_join (de_str (by decide +kernel)) (DO.frz (do_lcH (own := [("name", 3), ("is_one", 4)]) hot0 (by simp) sc__law_rw_heard.nd (dih_list (dv (i := 2))) (blk_by (by kernel_rfl)) (by decide) (fun s H C cl fp => (dg_tupH ⟨_, hot0, by simp⟩ (dgs_cons (dgv sc__law_rw_heard.nd (i := 3)) (dgs_cons (dgv sc__law_rw_heard.nd (i := 4)) dgs_nil)))) (fun s H C cl fp => (dts_one (dt_tru (dv (i := 4))))) (fun s H C cl fp => (dv (i := 3)))))) (dl_cons (de_what (T.e x.cls hx).xf (T.e x.cls hx).err.no hz.zc hf gd hv (tv (i := 1))) dl_nil)))))))))
theorem sc__law_rw_fault : FnScope ["n", "thing", "top", "wrong", "at"] ["n", "thing", "top"] (defScope s__law_rw_fault) := ⟨rfl, rfl, rfl, by decide +kernel, rfl, by decide +kernel, by decide +kernel⟩
theorem bd__law_rw_fault (T : Tx K mg) : Binds K (fdOf K ("_law_rw_fault", none)) ["n", "thing", "top"] [] := T.F__law_rw_fault.binds fun _ _ _ _ _ us hl => match us, hl with | [_, _, _], _ => rfl
theorem ok__law_rw_fault (T : Tx K mg) (B : TB K mg base tf) : FnOk P w K mg base (L2N.CX P w) 2 (He.fAd K ("_law_rw_fault", none)) (fdOf K ("_law_rw_fault", none)) ["n", "thing", "top"] (spD K mg (TTof K tf) 3 m__law_rw_fault) :=
  fn_ok (N := ["n", "thing", "top", "wrong", "at"]) T.F__law_rw_fault sc__law_rw_fault fun A outer s H E Z hr hT tk pp => ((dss_cons (ds_if (DW.dt (dw_or (dt_not (dt_tru (de_isi isi_tup rfl T.n_isinstance rfl T.n_tuple (by decide +kernel) (dv (i := 1))))) (dw_or1 (dt_cmp (op_neP (room_hu hr)) v2_ne (de_callB cr_len vl_len rfl T.n_len (by decide +kernel) (dl_cons (dv (i := 1)) dl_nil)) (dv (i := 0)) rfl)))) (dss_one (ds_ret (de_un un_neg v1_neg de_int))) dss_nil) (dss_cons (ds_setLcF (own := [("at", 4)]) (i := 3) rfl sc__law_rw_fault.nd rfl rfl (L2.sw_true rfl rfl rfl rfl) (di_range1 rfl T.n_range (dv (i := 0))) (blk_by (by kernel_rfl)) (by decide) (fun s H C cl fp => (dgv sc__law_rw_fault.nd (i := 4))) (fun s H C cl fp => (dts_one (dt_not (dt_tru (de_call (ok__law_fb_is T B) hT (hr.mono (by first | decide | omega)) rfl T.g__law_fb_is T.F__law_fb_is.kp (bd__law_fb_is T) takesN0 (da_d (de_ix ix_seq v2_ix (dv (i := 1)) (dv (i := 4)) (fun _ _ => rfl)) (da_d de_int (da_d (dv (i := 2)) da_nil)))))))) (fun s H C cl fp => (dv (i := 4)))) (dss_one (ds_ret (de_if (dt_cmp (op_neP (room_hu hr)) v2_ne (dv (i := 3)) (DO.frz (do_lst dl_nil)) rfl) (de_ix ix_seq v2_ix (dv (i := 3)) de_int (fun _ _ => rfl)) de_non))))))
theorem sc__law_rw_row : FnScope ["jar", "n", "big", "sorts", "few_now", "s"] ["jar", "n"] (defScope s__law_rw_row) := ⟨rfl, rfl, rfl, by decide +kernel, rfl, by decide +kernel, by decide +kernel⟩
theorem bd__law_rw_row (T : Tx K mg) : Binds K (fdOf K ("_law_rw_row", none)) ["jar", "n"] [] := T.F__law_rw_row.binds fun _ _ _ _ _ us hl => match us, hl with | [_, _], _ => rfl
theorem ok__law_rw_row (T : Tx K mg) (B : TB K mg base tf) : FnOk P w K mg base (L2N.CX P w) 3 (He.fAd K ("_law_rw_row", none)) (fdOf K ("_law_rw_row", none)) ["jar", "n"] (spD K mg (TTof K tf) 2 m__law_rw_row) :=
  fn_ok (N := ["jar", "n", "big", "sorts", "few_now", "s"]) T.F__law_rw_row sc__law_rw_row fun A outer s H E Z hr hT tk pp => ((dss_cons (ds_set (i := 2) sc__law_rw_row.nd rfl (.inl rfl) (de_call0 (ok__law_fb_big T B) hT (hr.mono (by decide)) rfl T.g__law_fb_big T.F__law_fb_big.kp (bd__law_fb_big T))) (dss_cons (ds_set (i := 3) sc__law_rw_row.nd rfl (.inl rfl) (DO.frz (do_lst (dl_cons (DO.frz (do_lst (dl_cons de_int (dl_cons de_int (dl_cons de_int (dl_cons de_int dl_nil)))))) (dl_cons (DO.frz (do_lst (dl_cons de_int dl_nil))) (dl_cons (DO.frz (do_lst (dl_cons de_int (dl_cons de_int (dl_cons de_int (dl_cons (de_op op_pow v2_pow de_int de_int) dl_nil)))))) (dl_cons (DO.frz (do_lst (dl_cons (dv (i := 2)) (dl_cons (de_op op_sub v2_sub (dv (i := 2)) de_int) (dl_cons de_int (dl_cons de_int dl_nil)))))) (dl_cons (DO.frz (do_lst (dl_cons de_int (dl_cons (de_op op_fdivW v2_fdiv (dv (i := 2)) de_int) (dl_cons (de_op op_pow v2_pow de_int de_int) dl_nil))))) dl_nil)))))))) (dss_cons (ds_set (i := 4) sc__law_rw_row.nd rfl (.inr rfl) (de_call (ok__law_one T B) hT (hr.mono (by first | decide | omega)) rfl T.g__law_one T.F__law_one.kp (bd__law_one T) tk (da_s (tv (i := 0)) (da_d (dv (i := 3)) da_nil)))) (dss_one (ds_ret (de_callT call_tuple_of vl_tup rfl T.n_tuple (by decide +kernel) (dl_cons (DO.frz (do_lc (own := [("s", 5)]) rfl sc__law_rw_row.nd (di_range1 rfl T.n_range (dv (i := 1))) (blk_by (by kernel_rfl)) (by decide) (fun s H C cl fp => (dgv sc__law_rw_row.nd (i := 5))) (fun s H C cl fp => dts_nil) (fun s H C cl fp => (de_call (ok__law_one T B) hT (hr.mono (by first | decide | omega)) rfl T.g__law_one T.F__law_one.kp (bd__law_one T) takesN0 (da_s (tv (i := 0)) (da_d (dv (i := 4)) da_nil)))))) dl_nil))))))))
theorem sc__law_rw_forms_right : FnScope ["n", "thing", "row_fault", "limits_fault", "got", "owed"] ["n", "thing"] (defScope s__law_rw_forms_right) := ⟨rfl, rfl, rfl, by decide +kernel, rfl, by decide +kernel, by decide +kernel⟩
theorem bd__law_rw_forms_right (T : Tx K mg) : Binds K (fdOf K ("_law_rw_forms_right", none)) ["n", "thing"] [] := T.F__law_rw_forms_right.binds fun _ _ _ _ _ us hl => match us, hl with | [_, _], _ => rfl
theorem ok__law_rw_forms_right (T : Tx K mg) (B : TB K mg base tf) : FnOk P w K mg base (L2N.CX P w) 14 (He.fAd K ("_law_rw_forms_right", none)) (fdOf K ("_law_rw_forms_right", none)) ["n", "thing"] (spD K mg (TTof K tf) 2 m__law_rw_forms_right) :=
  fn_ok (N := ["n", "thing", "row_fault", "limits_fault", "got", "owed"]) T.F__law_rw_forms_right sc__law_rw_forms_right fun A outer s H E Z hr hT tk pp => ((dss_cons (ds_par (i := 2) (j := 3) rfl sc__law_rw_forms_right.nd rfl rfl (by decide) rfl rfl (dr_d (de_call (ok__law_rw_fault T B) hT (hr.mono (by first | decide | omega)) rfl T.g__law_rw_fault T.F__law_rw_fault.kp (bd__law_rw_fault T) tk (da_d (dv (i := 0)) (da_d (dv (i := 1)) (da_d (de_call0 (ok__law_fb_big T B) hT (hr.mono (by decide)) rfl T.g__law_fb_big T.F__law_fb_big.kp (bd__law_fb_big T)) da_nil)))) (dr_d (de_call (ok__law_rw_fault T B) hT (hr.mono (by first | decide | omega)) rfl T.g__law_rw_fault T.F__law_rw_fault.kp (bd__law_rw_fault T) tk (da_d (dv (i := 0)) (da_d (dv (i := 1)) (da_d de_int da_nil)))) dr_nil))) (dss_cons (ds_setO (i := 4) sc__law_rw_forms_right.nd rfl (.inl rfl) (do_lst (dl_cons (de_heardF T.F__law_rw_heard (bd__law_rw_heard T) sc__law_rw_heard rfl T.g__law_rw_heard rfl (.inl rfl) hT (hg__law_rw_heard T _) (B ("_law_rw_forms_right", none) (by decide +kernel)) rfl (tt_mem (p := ("_law_rw_forms_right", none)) (by decide +kernel)) (tt_un (p := ("_law_rw_forms_right", none)) T.nd (by decide +kernel)) hr (LamX.lamS_by (by kernel_rfl)) rfl (fun _ _ _ _ _ => rfl) (fun E A outer s H f c' hr2 => (de_call (ok_made_row T B) hT (hr2.mono (by first | decide | omega)) rfl T.g_made_row T.F_made_row.kp (bd_made_row T) (L2N.takes_of rfl rfl rfl rfl) (da_d (dv (i := 0)) (da_d (dv (i := 1)) da_nil))))) dl_nil))) (dss_cons (ds_expr (de_app (tv (i := 4)) (de_heardF T.F__law_rw_heard (bd__law_rw_heard T) sc__law_rw_heard rfl T.g__law_rw_heard rfl (.inl rfl) hT (hg__law_rw_heard T _) (B ("_law_rw_forms_right", none) (by decide +kernel)) rfl (tt_mem (p := ("_law_rw_forms_right", none)) (by decide +kernel)) (tt_un (p := ("_law_rw_forms_right", none)) T.nd (by decide +kernel)) hr (LamX.lamS_by (by kernel_rfl)) rfl (fun _ _ _ _ _ => rfl) (fun E A outer s H f c' hr2 => (de_call (ok_is_row T B) hT (hr2.mono (by first | decide | omega)) rfl T.g_is_row T.F_is_row.kp (bd_is_row T) (L2N.takes_of rfl rfl rfl rfl) (da_d (dv (i := 0)) (da_d (dv (i := 1)) da_nil))))))) (dss_cons (ds_expr (de_app (tv (i := 4)) (de_heardF T.F__law_rw_heard (bd__law_rw_heard T) sc__law_rw_heard rfl T.g__law_rw_heard rfl (.inl rfl) hT (hg__law_rw_heard T _) (B ("_law_rw_forms_right", none) (by decide +kernel)) rfl (tt_mem (p := ("_law_rw_forms_right", none)) (by decide +kernel)) (tt_un (p := ("_law_rw_forms_right", none)) T.nd (by decide +kernel)) hr (LamX.lamS_by (by kernel_rfl)) rfl (fun _ _ _ _ _ => rfl) (fun E A outer s H f c' hr2 => (de_call (ok_made_limits T B) hT (hr2.mono (by first | decide | omega)) rfl T.g_made_limits T.F_made_limits.kp (bd_made_limits T) (L2N.takes_of rfl rfl rfl rfl) (da_d (dv (i := 0)) (da_d (dv (i := 1)) da_nil))))))) (dss_cons (ds_expr (de_app (tv (i := 4)) (de_heardF T.F__law_rw_heard (bd__law_rw_heard T) sc__law_rw_heard rfl T.g__law_rw_heard rfl (.inl rfl) hT (hg__law_rw_heard T _) (B ("_law_rw_forms_right", none) (by decide +kernel)) rfl (tt_mem (p := ("_law_rw_forms_right", none)) (by decide +kernel)) (tt_un (p := ("_law_rw_forms_right", none)) T.nd (by decide +kernel)) hr (LamX.lamS_by (by kernel_rfl)) rfl (fun _ _ _ _ _ => rfl) (fun E A outer s H f c' hr2 => (de_call (ok_is_limits T B) hT (hr2.mono (by first | decide | omega)) rfl T.g_is_limits T.F_is_limits.kp (bd_is_limits T) (L2N.takes_of rfl rfl rfl rfl) (da_d (dv (i := 0)) (da_d (dv (i := 1)) da_nil))))))) (dss_cons (ds_setO (i := 5) sc__law_rw_forms_right.nd rfl (.inl rfl) (do_lst (dl_cons (de_if (dt_cmp op_isN v2_isN (dv (i := 2)) de_non rfl) (de_tup (dl_cons (de_str (by decide +kernel)) (dl_cons (dv (i := 1)) dl_nil))) (de_tup (dl_cons (de_str (by decide +kernel)) (dl_cons (dv (i := 2)) dl_nil)))) (dl_cons (de_tup (dl_cons (de_str (by decide +kernel)) (dl_cons (de_cmp op_isN v2_isN (dv (i := 2)) de_non rfl) dl_nil))) dl_nil)))) (dss_cons (ds_expr (de_app (tv (i := 5)) (de_if (dt_cmp op_isN v2_isN (dv (i := 3)) de_non rfl) (de_tup (dl_cons (de_str (by decide +kernel)) (dl_cons (dv (i := 1)) dl_nil))) (de_tup (dl_cons (de_str (by decide +kernel)) (dl_cons (dv (i := 3)) dl_nil)))))) (dss_one (ds_ret (de_call (ok__law_fb_same T B) hT (hr.mono (by first | decide | omega)) rfl T.g__law_fb_same T.F__law_fb_same.kp (bd__law_fb_same T) tk (da_d (dv (i := 4)) (da_d (de_op op_addA v2_add (dv (i := 5)) (DO.frz (do_lst (dl_cons (de_tup (dl_cons (de_str (by decide +kernel)) (dl_cons (de_cmp op_isN v2_isN (dv (i := 3)) de_non rfl) dl_nil))) dl_nil)))) da_nil)))))))))))))
theorem sc__law_rw_things : FnScope ["jar", "right", "big", "few_now", "odd", "at"] ["jar", "right"] (defScope s__law_rw_things) := ⟨rfl, rfl, rfl, by decide +kernel, rfl, by decide +kernel, by decide +kernel⟩
theorem bd__law_rw_things (T : Tx K mg) : Binds K (fdOf K ("_law_rw_things", none)) ["jar", "right"] [] := T.F__law_rw_things.binds fun _ _ _ _ _ us hl => match us, hl with | [_, _], _ => rfl
theorem ok__law_rw_things (T : Tx K mg) (B : TB K mg base tf) : FnOk P w K mg base (L2N.CX P w) 16 (He.fAd K ("_law_rw_things", none)) (fdOf K ("_law_rw_things", none)) ["jar", "right"] (spD K mg (TTof K tf) 2 m__law_rw_things) :=
  fn_ok (N := ["jar", "right", "big", "few_now", "odd", "at"]) T.F__law_rw_things sc__law_rw_things fun A outer s H E Z hr hT tk pp => ((dss_cons (ds_set (i := 2) sc__law_rw_things.nd rfl (.inl rfl) (de_call0 (ok__law_fb_big T B) hT (hr.mono (by decide)) rfl T.g__law_fb_big T.F__law_fb_big.kp (bd__law_fb_big T))) (dss_cons (ds_setO (i := 3) sc__law_rw_things.nd rfl (.inl rfl) (do_lst (dl_cons (dv (i := 1)) (dl_cons (de_callT call_list_of vl_lst rfl T.n_list (by decide +kernel) (dl_cons (dv (i := 1)) dl_nil)) (dl_cons de_non (dl_cons de_int (dl_cons (de_str (by decide +kernel)) (dl_cons (de_tup (dl_cons (dv (i := 1)) dl_nil)) (dl_cons (de_op op_addA v2_add (dv (i := 1)) (de_tup (dl_cons de_int dl_nil))) (dl_cons (de_sl (dv (i := 1)) (dp_some de_int) dp_none) (dl_cons (de_tup dl_nil) (dl_cons (de_op op_addA v2_add (dv (i := 1)) (dv (i := 1))) (dl_cons de_bl dl_nil))))))))))))) (dss_cons (ds_for pp rfl (di_seq (DO.frz (do_lst (dl_cons (de_un un_neg v1_neg de_int) (dl_cons (dv (i := 2)) (dl_cons (de_op op_addA v2_add (dv (i := 2)) de_int) (dl_cons de_int (dl_cons de_int (dl_cons de_bl (dl_cons de_bl (dl_cons de_non (dl_cons (de_str (by decide +kernel)) (dl_cons (de_tup (dl_cons de_int dl_nil)) (dl_cons (DO.frz (do_lst (dl_cons de_int dl_nil))) (dl_cons de_int dl_nil))))))))))))))) (dgv sc__law_rw_things.nd (i := 4)) (dss_cons (ds_set (i := 5) sc__law_rw_things.nd rfl (.inl rfl) (de_call (ok__law_take T B) hT (hr.mono (by first | decide | omega)) rfl T.g__law_take T.F__law_take.kp (bd__law_take T) tk (da_s (tv (i := 0)) (da_d (de_callB cr_len vl_len rfl T.n_len (by decide +kernel) (dl_cons (dv (i := 1)) dl_nil)) da_nil)))) (dss_one (ds_expr (de_ext (tv (i := 3)) (DO.frz (do_lst (dl_cons (de_op op_addA v2_add (de_op op_addA v2_add (de_sl (dv (i := 1)) dp_none (dp_some (dv (i := 5)))) (de_tup (dl_cons (dv (i := 4)) dl_nil))) (de_sl (dv (i := 1)) (dp_some (de_op op_addA v2_add (dv (i := 5)) de_int)) dp_none)) (dl_cons (de_op op_addA v2_add (de_op op_addA v2_add (de_op op_addA v2_add (de_sl (dv (i := 1)) dp_none (dp_some (dv (i := 5)))) (de_tup (dl_cons (dv (i := 4)) dl_nil))) (de_sl (dv (i := 1)) (dp_some (de_op op_addA v2_add (dv (i := 5)) de_int)) (dp_some (de_un un_neg v1_neg de_int)))) (de_tup (dl_cons de_non dl_nil))) dl_nil))))))))) (dss_one (ds_ret (de_op op_addA v2_add (dv (i := 3)) (DO.frz (do_lst (dl_cons (de_call (ok__law_fb_bent T B) hT (hr.mono (by first | decide | omega)) rfl T.g__law_fb_bent T.F__law_fb_bent.kp (bd__law_fb_bent T) tk (da_s (tv (i := 0)) (da_d (dv (i := 1)) da_nil))) dl_nil))))))))))
theorem sc__law_rw_told_right : FnScope ["n", "one", "two", "k", "got", "owed", "each", "s"] ["n", "one", "two", "k"] (defScope s__law_rw_told_right) := ⟨rfl, rfl, rfl, by decide +kernel, rfl, by decide +kernel, by decide +kernel⟩
theorem bd__law_rw_told_right (T : Tx K mg) : Binds K (fdOf K ("_law_rw_told_right", none)) ["n", "one", "two", "k"] [] := T.F__law_rw_told_right.binds fun _ _ _ _ _ us hl => match us, hl with | [_, _, _, _], _ => rfl
theorem ok__law_rw_told_right (T : Tx K mg) (B : TB K mg base tf) : FnOk P w K mg base (L2N.CX P w) 14 (He.fAd K ("_law_rw_told_right", none)) (fdOf K ("_law_rw_told_right", none)) ["n", "one", "two", "k"] (spD K mg (TTof K tf) 4 m__law_rw_told_right) :=
  fn_ok (N := ["n", "one", "two", "k", "got", "owed", "each", "s"]) T.F__law_rw_told_right sc__law_rw_told_right fun A outer s H E Z hr hT tk pp => ((dss_cons (ds_setO (i := 4) sc__law_rw_told_right.nd rfl (.inl rfl) (do_lst (dl_cons (de_heardF T.F__law_rw_heard (bd__law_rw_heard T) sc__law_rw_heard rfl T.g__law_rw_heard rfl (.inl rfl) hT (hg__law_rw_heard T _) (B ("_law_rw_told_right", none) (by decide +kernel)) rfl (tt_mem (p := ("_law_rw_told_right", none)) (by decide +kernel)) (tt_un (p := ("_law_rw_told_right", none)) T.nd (by decide +kernel)) hr (LamX.lamS_by (by kernel_rfl)) rfl (fun _ _ _ _ _ => rfl) (fun E A outer s H f c' hr2 => (de_call (ok_row_sum T B) hT (hr2.mono (by first | decide | omega)) rfl T.g_row_sum T.F_row_sum.kp (bd_row_sum T) (L2N.takes_of rfl rfl rfl rfl) (da_d (dv (i := 0)) (da_d (dv (i := 1)) (da_d (dv (i := 2)) da_nil)))))) dl_nil))) (dss_cons (ds_expr (de_app (tv (i := 4)) (de_heardF T.F__law_rw_heard (bd__law_rw_heard T) sc__law_rw_heard rfl T.g__law_rw_heard rfl (.inl rfl) hT (hg__law_rw_heard T _) (B ("_law_rw_told_right", none) (by decide +kernel)) rfl (tt_mem (p := ("_law_rw_told_right", none)) (by decide +kernel)) (tt_un (p := ("_law_rw_told_right", none)) T.nd (by decide +kernel)) hr (LamX.lamS_by (by kernel_rfl)) rfl (fun _ _ _ _ _ => rfl) (fun E A outer s H f c' hr2 => (de_call (ok_row_top T B) hT (hr2.mono (by first | decide | omega)) rfl T.g_row_top T.F_row_top.kp (bd_row_top T) (L2N.takes_of rfl rfl rfl rfl) (da_d (dv (i := 0)) (da_d (dv (i := 1)) (da_d (dv (i := 2)) da_nil)))))))) (dss_cons (ds_expr (de_app (tv (i := 4)) (de_heardF T.F__law_rw_heard (bd__law_rw_heard T) sc__law_rw_heard rfl T.g__law_rw_heard rfl (.inl rfl) hT (hg__law_rw_heard T _) (B ("_law_rw_told_right", none) (by decide +kernel)) rfl (tt_mem (p := ("_law_rw_told_right", none)) (by decide +kernel)) (tt_un (p := ("_law_rw_told_right", none)) T.nd (by decide +kernel)) hr (LamX.lamS_by (by kernel_rfl)) rfl (fun _ _ _ _ _ => rfl) (fun E A outer s H f c' hr2 => (de_call (ok_row_times T B) hT (hr2.mono (by first | decide | omega)) rfl T.g_row_times T.F_row_times.kp (bd_row_times T) (L2N.takes_of rfl rfl rfl rfl) (da_d (dv (i := 0)) (da_d (dv (i := 1)) (da_d (dv (i := 3)) da_nil)))))))) (dss_cons (ds_expr (de_app (tv (i := 4)) (de_heardF T.F__law_rw_heard (bd__law_rw_heard T) sc__law_rw_heard rfl T.g__law_rw_heard rfl (.inl rfl) hT (hg__law_rw_heard T _) (B ("_law_rw_told_right", none) (by decide +kernel)) rfl (tt_mem (p := ("_law_rw_told_right", none)) (by decide +kernel)) (tt_un (p := ("_law_rw_told_right", none)) T.nd (by decide +kernel)) hr (LamX.lamS_by (by kernel_rfl)) rfl (fun _ _ _ _ _ => rfl) (fun E A outer s H f c' hr2 => (de_call (ok_row_below T B) hT (hr2.mono (by first | decide | omega)) rfl T.g_row_below T.F_row_below.kp (bd_row_below T) (L2N.takes_of rfl rfl rfl rfl) (da_d (dv (i := 0)) (da_d (dv (i := 1)) (da_d (dv (i := 2)) da_nil)))))))) (dss_cons (ds_expr (de_app (tv (i := 4)) (de_heardF T.F__law_rw_heard (bd__law_rw_heard T) sc__law_rw_heard rfl T.g__law_rw_heard rfl (.inl rfl) hT (hg__law_rw_heard T _) (B ("_law_rw_told_right", none) (by decide +kernel)) rfl (tt_mem (p := ("_law_rw_told_right", none)) (by decide +kernel)) (tt_un (p := ("_law_rw_told_right", none)) T.nd (by decide +kernel)) hr (LamX.lamS_by (by kernel_rfl)) rfl (fun _ _ _ _ _ => rfl) (fun E A outer s H f c' hr2 => (de_call (ok_row_below T B) hT (hr2.mono (by first | decide | omega)) rfl T.g_row_below T.F_row_below.kp (bd_row_below T) (L2N.takes_of rfl rfl rfl rfl) (da_d (dv (i := 0)) (da_d (dv (i := 1)) (da_d (dv (i := 1)) da_nil)))))))) (dss_cons (ds_setO (i := 5) sc__law_rw_told_right.nd rfl (.inl rfl) (do_lst (dl_cons (de_callT call_tuple_of vl_tup rfl T.n_tuple (by decide +kernel) (dl_cons (DO.frz (do_lc (own := [("s", 7)]) rfl sc__law_rw_told_right.nd (di_range1 rfl T.n_range (dv (i := 0))) (blk_by (by kernel_rfl)) (by decide) (fun s H C cl fp => (dgv sc__law_rw_told_right.nd (i := 7))) (fun s H C cl fp => dts_nil) (fun s H C cl fp => (de_op op_addA v2_add (de_ix ix_seq v2_ix (dv (i := 1)) (dv (i := 7)) (fun _ _ => rfl)) (de_ix ix_seq v2_ix (dv (i := 2)) (dv (i := 7)) (fun _ _ => rfl)))))) dl_nil)) (dl_cons (de_callT call_tuple_of vl_tup rfl T.n_tuple (by decide +kernel) (dl_cons (DO.frz (do_lc (own := [("s", 7)]) rfl sc__law_rw_told_right.nd (di_range1 rfl T.n_range (dv (i := 0))) (blk_by (by kernel_rfl)) (by decide) (fun s H C cl fp => (dgv sc__law_rw_told_right.nd (i := 7))) (fun s H C cl fp => dts_nil) (fun s H C cl fp => (de_callB (call_max2 rfl) vl_max rfl T.n_max (by decide +kernel) (dl_cons (de_ix ix_seq v2_ix (dv (i := 1)) (dv (i := 7)) (fun _ _ => rfl)) (dl_cons (de_ix ix_seq v2_ix (dv (i := 2)) (dv (i := 7)) (fun _ _ => rfl)) dl_nil)))))) dl_nil)) dl_nil)))) (dss_cons (ds_expr (de_ext (tv (i := 5)) (DO.frz (do_lst (dl_cons (de_callT call_tuple_of vl_tup rfl T.n_tuple (by decide +kernel) (dl_cons (DO.frz (do_lc (own := [("s", 7)]) rfl sc__law_rw_told_right.nd (di_range1 rfl T.n_range (dv (i := 0))) (blk_by (by kernel_rfl)) (by decide) (fun s H C cl fp => (dgv sc__law_rw_told_right.nd (i := 7))) (fun s H C cl fp => dts_nil) (fun s H C cl fp => (de_op op_mulA v2_mul (de_ix ix_seq v2_ix (dv (i := 1)) (dv (i := 7)) (fun _ _ => rfl)) (dv (i := 3)))))) dl_nil)) (dl_cons (de_cmp (op_eqP (room_hu hr)) v2_eq (DO.frz (do_lc (own := [("s", 7)]) rfl sc__law_rw_told_right.nd (di_range1 rfl T.n_range (dv (i := 0))) (blk_by (by kernel_rfl)) (by decide) (fun s H C cl fp => (dgv sc__law_rw_told_right.nd (i := 7))) (fun s H C cl fp => (dts_one (dt_cmp op_gt v2_gt (de_ix ix_seq v2_ix (dv (i := 1)) (dv (i := 7)) (fun _ _ => rfl)) (de_ix ix_seq v2_ix (dv (i := 2)) (dv (i := 7)) (fun _ _ => rfl)) rfl))) (fun s H C cl fp => (dv (i := 7))))) (DO.frz (do_lst dl_nil)) rfl) (dl_cons de_bl dl_nil))))))) (dss_one (ds_ret (de_call (ok__law_fb_same T B) hT (hr.mono (by first | decide | omega)) rfl T.g__law_fb_same T.F__law_fb_same.kp (bd__law_fb_same T) tk (da_d (dv (i := 4)) (da_d (DO.frz (do_lc (own := [("each", 6)]) rfl sc__law_rw_told_right.nd (di_seq (dv (i := 5))) (blk_by (by kernel_rfl)) (by decide) (fun s H C cl fp => (dgv sc__law_rw_told_right.nd (i := 6))) (fun s H C cl fp => dts_nil) (fun s H C cl fp => (de_tup (dl_cons (de_str (by decide +kernel)) (dl_cons (dv (i := 6)) dl_nil)))))) da_nil)))))))))))))
theorem sc__law_rw_refused_right : FnScope ["jar", "n", "one", "two", "many_v", "few_now", "bad", "odd", "far", "over", "got", "owed", "top", "first", "second", "due"] ["jar", "n", "one", "two"] (defScope s__law_rw_refused_right) := ⟨rfl, rfl, rfl, by decide +kernel, rfl, by decide +kernel, by decide +kernel⟩
theorem bd__law_rw_refused_right (T : Tx K mg) : Binds K (fdOf K ("_law_rw_refused_right", none)) ["jar", "n", "one", "two"] [] := T.F__law_rw_refused_right.binds fun _ _ _ _ _ us hl => match us, hl with | [_, _, _, _], _ => rfl
theorem ok__law_rw_refused_right (T : Tx K mg) (B : TB K mg base tf) : FnOk P w K mg base (L2N.CX P w) 14 (He.fAd K ("_law_rw_refused_right", none)) (fdOf K ("_law_rw_refused_right", none)) ["jar", "n", "one", "two"] (spD K mg (TTof K tf) 4 m__law_rw_refused_right) :=
  fn_ok (N := ["jar", "n", "one", "two", "many_v", "few_now", "bad", "odd", "far", "over", "got", "owed", "top", "first", "second", "due"]) T.F__law_rw_refused_right sc__law_rw_refused_right fun A outer s H E Z hr hT tk pp => ((dss_cons (ds_set (i := 4) sc__law_rw_refused_right.nd rfl (.inr rfl) (de_call (ok__law_one T B) hT (hr.mono (by first | decide | omega)) rfl T.g__law_one T.F__law_one.kp (bd__law_one T) tk (da_s (tv (i := 0)) (da_d (DO.frz (do_lst (dl_cons de_int (dl_cons de_int (dl_cons (de_un un_neg v1_neg de_int) (dl_cons de_bl (dl_cons de_non (dl_cons (de_str (by decide +kernel)) (dl_cons (de_tup (dl_cons de_int dl_nil)) (dl_cons (de_op op_pow v2_pow de_int de_int) dl_nil)))))))))) da_nil)))) (dss_cons (ds_set (i := 5) sc__law_rw_refused_right.nd rfl (.inl rfl) (DO.frz (do_lst (dl_cons de_non (dl_cons (de_callT call_list_of vl_lst rfl T.n_list (by decide +kernel) (dl_cons (dv (i := 2)) dl_nil)) (dl_cons (de_op op_addA v2_add (dv (i := 2)) (de_tup (dl_cons de_int dl_nil))) (dl_cons (de_op op_addA v2_add (de_tup (dl_cons (de_un un_neg v1_neg de_int) dl_nil)) (de_sl (dv (i := 2)) (dp_some de_int) dp_none)) (dl_cons (de_op op_addA v2_add (de_sl (dv (i := 2)) dp_none (dp_some (de_un un_neg v1_neg de_int))) (de_tup (dl_cons de_bl dl_nil))) (dl_cons (de_op op_addA v2_add (de_sl (dv (i := 2)) dp_none (dp_some (de_un un_neg v1_neg de_int))) (de_tup (dl_cons (de_op op_addA v2_add (de_call0 (ok__law_fb_big T B) hT (hr.mono (by decide)) rfl T.g__law_fb_big T.F__law_fb_big.kp (bd__law_fb_big T)) de_int) dl_nil))) (dl_cons (de_tup dl_nil) dl_nil)))))))))) (dss_cons (ds_asg (de_tup (dl_cons (de_call (ok__law_one T B) hT (hr.mono (by first | decide | omega)) rfl T.g__law_one T.F__law_one.kp (bd__law_one T) tk (da_s (tv (i := 0)) (da_d (dv (i := 5)) da_nil))) (dl_cons (de_call (ok__law_one T B) hT (hr.mono (by first | decide | omega)) rfl T.g__law_one T.F__law_one.kp (bd__law_one T) tk (da_s (tv (i := 0)) (da_d (DO.frz (do_lst (dl_cons de_non (dl_cons (de_sl (dv (i := 3)) (dp_some de_int) dp_none) (dl_cons (de_op op_addA v2_add (de_tup (dl_cons (de_str (by decide +kernel)) dl_nil)) (de_sl (dv (i := 3)) (dp_some de_int) dp_none)) (dl_cons (de_op op_addA v2_add (de_sl (dv (i := 3)) dp_none (dp_some (de_un un_neg v1_neg de_int))) (de_tup (dl_cons (de_un un_neg v1_neg de_int) dl_nil))) (dl_cons (DO.frz (do_lst (dl_cons de_int dl_nil))) dl_nil))))))) da_nil))) dl_nil))) (dg_tup rfl (dgs_cons (dgv sc__law_rw_refused_right.nd (i := 6)) (dgs_cons (dgv sc__law_rw_refused_right.nd (i := 7)) dgs_nil)))) (dss_cons (ds_set (i := 8) sc__law_rw_refused_right.nd rfl (.inr rfl) (de_call (ok__law_one T B) hT (hr.mono (by first | decide | omega)) rfl T.g__law_one T.F__law_one.kp (bd__law_one T) tk (da_s (tv (i := 0)) (da_d (DO.frz (do_lst (dl_cons de_int (dl_cons (de_un un_neg v1_neg de_int) (dl_cons de_bl (dl_cons de_non (dl_cons (de_str (by decide +kernel)) (dl_cons (de_tup (dl_cons de_int dl_nil)) (dl_cons (de_op op_pow v2_pow de_int de_int) dl_nil))))))))) da_nil)))) (dss_cons (ds_set (i := 9) sc__law_rw_refused_right.nd rfl (.inr rfl) (de_call (ok__law_one T B) hT (hr.mono (by first | decide | omega)) rfl T.g__law_one T.F__law_one.kp (bd__law_one T) tk (da_s (tv (i := 0)) (da_d (DO.frz (do_lst (dl_cons de_int (dl_cons (de_un un_neg v1_neg de_int) (dl_cons de_bl (dl_cons de_non (dl_cons (de_str (by decide +kernel)) (dl_cons (de_tup (dl_cons de_int dl_nil)) dl_nil)))))))) da_nil)))) (dss_cons (ds_setO (i := 10) sc__law_rw_refused_right.nd rfl (.inl rfl) (do_lst (dl_cons (de_heardF T.F__law_rw_heard (bd__law_rw_heard T) sc__law_rw_heard rfl T.g__law_rw_heard rfl (.inl rfl) hT (hg__law_rw_heard T _) (B ("_law_rw_refused_right", none) (by decide +kernel)) rfl (tt_mem (p := ("_law_rw_refused_right", none)) (by decide +kernel)) (tt_un (p := ("_law_rw_refused_right", none)) T.nd (by decide +kernel)) hr (LamX.lamS_by (by kernel_rfl)) rfl (fun _ _ _ _ _ => rfl) (fun E A outer s H f c' hr2 => (de_call (ok_made_row T B) hT (hr2.mono (by first | decide | omega)) rfl T.g_made_row T.F_made_row.kp (bd_made_row T) (L2N.takes_of rfl rfl rfl rfl) (da_d (dv (i := 4)) (da_d (dv (i := 6)) da_nil))))) dl_nil))) (dss_cons (ds_expr (de_app (tv (i := 10)) (de_heardF T.F__law_rw_heard (bd__law_rw_heard T) sc__law_rw_heard rfl T.g__law_rw_heard rfl (.inl rfl) hT (hg__law_rw_heard T _) (B ("_law_rw_refused_right", none) (by decide +kernel)) rfl (tt_mem (p := ("_law_rw_refused_right", none)) (by decide +kernel)) (tt_un (p := ("_law_rw_refused_right", none)) T.nd (by decide +kernel)) hr (LamX.lamS_by (by kernel_rfl)) rfl (fun _ _ _ _ _ => rfl) (fun E A outer s H f c' hr2 => (de_call (ok_is_row T B) hT (hr2.mono (by first | decide | omega)) rfl T.g_is_row T.F_is_row.kp (bd_is_row T) (L2N.takes_of rfl rfl rfl rfl) (da_d (dv (i := 4)) (da_d (dv (i := 6)) da_nil))))))) (dss_cons (ds_expr (de_app (tv (i := 10)) (de_heardF T.F__law_rw_heard (bd__law_rw_heard T) sc__law_rw_heard rfl T.g__law_rw_heard rfl (.inl rfl) hT (hg__law_rw_heard T _) (B ("_law_rw_refused_right", none) (by decide +kernel)) rfl (tt_mem (p := ("_law_rw_refused_right", none)) (by decide +kernel)) (tt_un (p := ("_law_rw_refused_right", none)) T.nd (by decide +kernel)) hr (LamX.lamS_by (by kernel_rfl)) rfl (fun _ _ _ _ _ => rfl) (fun E A outer s H f c' hr2 => (de_call (ok_made_limits T B) hT (hr2.mono (by first | decide | omega)) rfl T.g_made_limits T.F_made_limits.kp (bd_made_limits T) (L2N.takes_of rfl rfl rfl rfl) (da_d (dv (i := 4)) (da_d (dv (i := 6)) da_nil))))))) (dss_cons (ds_expr (de_app (tv (i := 10)) (de_heardF T.F__law_rw_heard (bd__law_rw_heard T) sc__law_rw_heard rfl T.g__law_rw_heard rfl (.inl rfl) hT (hg__law_rw_heard T _) (B ("_law_rw_refused_right", none) (by decide +kernel)) rfl (tt_mem (p := ("_law_rw_refused_right", none)) (by decide +kernel)) (tt_un (p := ("_law_rw_refused_right", none)) T.nd (by decide +kernel)) hr (LamX.lamS_by (by kernel_rfl)) rfl (fun _ _ _ _ _ => rfl) (fun E A outer s H f c' hr2 => (de_call (ok_is_limits T B) hT (hr2.mono (by first | decide | omega)) rfl T.g_is_limits T.F_is_limits.kp (bd_is_limits T) (L2N.takes_of rfl rfl rfl rfl) (da_d (dv (i := 4)) (da_d (dv (i := 6)) da_nil))))))) (dss_cons (ds_expr (de_app (tv (i := 10)) (de_heardF T.F__law_rw_heard (bd__law_rw_heard T) sc__law_rw_heard rfl T.g__law_rw_heard rfl (.inl rfl) hT (hg__law_rw_heard T _) (B ("_law_rw_refused_right", none) (by decide +kernel)) rfl (tt_mem (p := ("_law_rw_refused_right", none)) (by decide +kernel)) (tt_un (p := ("_law_rw_refused_right", none)) T.nd (by decide +kernel)) hr (LamX.lamS_by (by kernel_rfl)) rfl (fun _ _ _ _ _ => rfl) (fun E A outer s H f c' hr2 => (de_call (ok_even T B) hT (hr2.mono (by first | decide | omega)) rfl T.g_even T.F_even.kp (bd_even T) (L2N.takes_of rfl rfl rfl rfl) (da_d (dv (i := 4)) (da_d (dv (i := 9)) da_nil))))))) (dss_cons (ds_expr (de_app (tv (i := 10)) (de_heardF T.F__law_rw_heard (bd__law_rw_heard T) sc__law_rw_heard rfl T.g__law_rw_heard rfl (.inl rfl) hT (hg__law_rw_heard T _) (B ("_law_rw_refused_right", none) (by decide +kernel)) rfl (tt_mem (p := ("_law_rw_refused_right", none)) (by decide +kernel)) (tt_un (p := ("_law_rw_refused_right", none)) T.nd (by decide +kernel)) hr (LamX.lamS_by (by kernel_rfl)) rfl (fun _ _ _ _ _ => rfl) (fun E A outer s H f c' hr2 => (de_call (ok_row_sum T B) hT (hr2.mono (by first | decide | omega)) rfl T.g_row_sum T.F_row_sum.kp (bd_row_sum T) (L2N.takes_of rfl rfl rfl rfl) (da_d (dv (i := 4)) (da_d (dv (i := 6)) (da_d (dv (i := 7)) da_nil)))))))) (dss_cons (ds_expr (de_app (tv (i := 10)) (de_heardF T.F__law_rw_heard (bd__law_rw_heard T) sc__law_rw_heard rfl T.g__law_rw_heard rfl (.inl rfl) hT (hg__law_rw_heard T _) (B ("_law_rw_refused_right", none) (by decide +kernel)) rfl (tt_mem (p := ("_law_rw_refused_right", none)) (by decide +kernel)) (tt_un (p := ("_law_rw_refused_right", none)) T.nd (by decide +kernel)) hr (LamX.lamS_by (by kernel_rfl)) rfl (fun _ _ _ _ _ => rfl) (fun E A outer s H f c' hr2 => (de_call (ok_row_top T B) hT (hr2.mono (by first | decide | omega)) rfl T.g_row_top T.F_row_top.kp (bd_row_top T) (L2N.takes_of rfl rfl rfl rfl) (da_d (dv (i := 4)) (da_d (dv (i := 6)) (da_d (dv (i := 7)) da_nil)))))))) (dss_cons (ds_expr (de_app (tv (i := 10)) (de_heardF T.F__law_rw_heard (bd__law_rw_heard T) sc__law_rw_heard rfl T.g__law_rw_heard rfl (.inl rfl) hT (hg__law_rw_heard T _) (B ("_law_rw_refused_right", none) (by decide +kernel)) rfl (tt_mem (p := ("_law_rw_refused_right", none)) (by decide +kernel)) (tt_un (p := ("_law_rw_refused_right", none)) T.nd (by decide +kernel)) hr (LamX.lamS_by (by kernel_rfl)) rfl (fun _ _ _ _ _ => rfl) (fun E A outer s H f c' hr2 => (de_call (ok_row_times T B) hT (hr2.mono (by first | decide | omega)) rfl T.g_row_times T.F_row_times.kp (bd_row_times T) (L2N.takes_of rfl rfl rfl rfl) (da_d (dv (i := 4)) (da_d (dv (i := 6)) (da_d (dv (i := 8)) da_nil)))))))) (dss_cons (ds_expr (de_app (tv (i := 10)) (de_heardF T.F__law_rw_heard (bd__law_rw_heard T) sc__law_rw_heard rfl T.g__law_rw_heard rfl (.inl rfl) hT (hg__law_rw_heard T _) (B ("_law_rw_refused_right", none) (by decide +kernel)) rfl (tt_mem (p := ("_law_rw_refused_right", none)) (by decide +kernel)) (tt_un (p := ("_law_rw_refused_right", none)) T.nd (by decide +kernel)) hr (LamX.lamS_by (by kernel_rfl)) rfl (fun _ _ _ _ _ => rfl) (fun E A outer s H f c' hr2 => (de_call (ok_row_below T B) hT (hr2.mono (by first | decide | omega)) rfl T.g_row_below T.F_row_below.kp (bd_row_below T) (L2N.takes_of rfl rfl rfl rfl) (da_d (dv (i := 4)) (da_d (dv (i := 6)) (da_d (dv (i := 7)) da_nil)))))))) (dss_cons (ds_par (i := 11) (j := 12) rfl sc__law_rw_refused_right.nd rfl rfl (by decide) rfl rfl (dr_o (do_mul (DO.frz (do_lst (dl_cons (de_tup (dl_cons (de_str (by decide +kernel)) (dl_cons (dv (i := 4)) dl_nil))) dl_nil))) de_int) (dr_d (de_call0 (ok__law_fb_big T B) hT (hr.mono (by decide)) rfl T.g__law_fb_big T.F__law_fb_big.kp (bd__law_fb_big T)) dr_nil))) (dss_cons (ds_for pp rfl (di_seq (DO.frz (do_lst (dl_cons (de_tup (dl_cons (dv (i := 6)) (dl_cons (dv (i := 7)) (dl_cons (dv (i := 6)) dl_nil)))) (dl_cons (de_tup (dl_cons (dv (i := 2)) (dl_cons (dv (i := 7)) (dl_cons (dv (i := 7)) dl_nil)))) dl_nil))))) (dg_tup rfl (dgs_cons (dgv sc__law_rw_refused_right.nd (i := 13)) (dgs_cons (dgv sc__law_rw_refused_right.nd (i := 14)) (dgs_cons (dgv sc__law_rw_refused_right.nd (i := 15)) dgs_nil)))) (dss_cons (ds_expr (de_app (tv (i := 10)) (de_heardF T.F__law_rw_heard (bd__law_rw_heard T) sc__law_rw_heard rfl T.g__law_rw_heard rfl (.inl rfl) hT (hg__law_rw_heard T _) (B ("_law_rw_refused_right", none) (by decide +kernel)) rfl (tt_mem (p := ("_law_rw_refused_right", none)) (by decide +kernel)) (tt_un (p := ("_law_rw_refused_right", none)) T.nd (by decide +kernel)) hr (LamX.lamS_by (by kernel_rfl)) rfl (fun _ _ _ _ _ => rfl) (fun E A outer s H f c' hr2 => (de_call (ok_row_sum T B) hT (hr2.mono (by first | decide | omega)) rfl T.g_row_sum T.F_row_sum.kp (bd_row_sum T) (L2N.takes_of rfl rfl rfl rfl) (da_d (dv (i := 1)) (da_d (dv (i := 13)) (da_d (dv (i := 14)) da_nil)))))))) (dss_cons (ds_expr (de_app (tv (i := 10)) (de_heardF T.F__law_rw_heard (bd__law_rw_heard T) sc__law_rw_heard rfl T.g__law_rw_heard rfl (.inl rfl) hT (hg__law_rw_heard T _) (B ("_law_rw_refused_right", none) (by decide +kernel)) rfl (tt_mem (p := ("_law_rw_refused_right", none)) (by decide +kernel)) (tt_un (p := ("_law_rw_refused_right", none)) T.nd (by decide +kernel)) hr (LamX.lamS_by (by kernel_rfl)) rfl (fun _ _ _ _ _ => rfl) (fun E A outer s H f c' hr2 => (de_call (ok_row_top T B) hT (hr2.mono (by first | decide | omega)) rfl T.g_row_top T.F_row_top.kp (bd_row_top T) (L2N.takes_of rfl rfl rfl rfl) (da_d (dv (i := 1)) (da_d (dv (i := 13)) (da_d (dv (i := 14)) da_nil)))))))) (dss_cons (ds_expr (de_app (tv (i := 10)) (de_heardF T.F__law_rw_heard (bd__law_rw_heard T) sc__law_rw_heard rfl T.g__law_rw_heard rfl (.inl rfl) hT (hg__law_rw_heard T _) (B ("_law_rw_refused_right", none) (by decide +kernel)) rfl (tt_mem (p := ("_law_rw_refused_right", none)) (by decide +kernel)) (tt_un (p := ("_law_rw_refused_right", none)) T.nd (by decide +kernel)) hr (LamX.lamS_by (by kernel_rfl)) rfl (fun _ _ _ _ _ => rfl) (fun E A outer s H f c' hr2 => (de_call (ok_row_below T B) hT (hr2.mono (by first | decide | omega)) rfl T.g_row_below T.F_row_below.kp (bd_row_below T) (L2N.takes_of rfl rfl rfl rfl) (da_d (dv (i := 1)) (da_d (dv (i := 13)) (da_d (dv (i := 14)) da_nil)))))))) (dss_one (ds_expr (de_ext (tv (i := 11)) (de_op op_mulA v2_mul (DO.frz (do_lst (dl_cons (de_tup (dl_cons (de_str (by decide +kernel)) (dl_cons (de_call (ok__law_rw_fault T B) hT (hr.mono (by first | decide | omega)) rfl T.g__law_rw_fault T.F__law_rw_fault.kp (bd__law_rw_fault T) tk (da_d (dv (i := 1)) (da_d (dv (i := 15)) (da_d (dv (i := 12)) da_nil)))) dl_nil))) dl_nil))) de_int)))))))) (dss_cons (ds_expr (de_app (tv (i := 10)) (de_heardF T.F__law_rw_heard (bd__law_rw_heard T) sc__law_rw_heard rfl T.g__law_rw_heard rfl (.inl rfl) hT (hg__law_rw_heard T _) (B ("_law_rw_refused_right", none) (by decide +kernel)) rfl (tt_mem (p := ("_law_rw_refused_right", none)) (by decide +kernel)) (tt_un (p := ("_law_rw_refused_right", none)) T.nd (by decide +kernel)) hr (LamX.lamS_by (by kernel_rfl)) rfl (fun _ _ _ _ _ => rfl) (fun E A outer s H f c' hr2 => (de_call (ok_row_times T B) hT (hr2.mono (by first | decide | omega)) rfl T.g_row_times T.F_row_times.kp (bd_row_times T) (L2N.takes_of rfl rfl rfl rfl) (da_d (dv (i := 1)) (da_d (dv (i := 6)) (da_d (dv (i := 8)) da_nil)))))))) (dss_cons (ds_expr (de_app (tv (i := 10)) (de_heardF T.F__law_rw_heard (bd__law_rw_heard T) sc__law_rw_heard rfl T.g__law_rw_heard rfl (.inl rfl) hT (hg__law_rw_heard T _) (B ("_law_rw_refused_right", none) (by decide +kernel)) rfl (tt_mem (p := ("_law_rw_refused_right", none)) (by decide +kernel)) (tt_un (p := ("_law_rw_refused_right", none)) T.nd (by decide +kernel)) hr (LamX.lamS_by (by kernel_rfl)) rfl (fun _ _ _ _ _ => rfl) (fun E A outer s H f c' hr2 => (de_call (ok_row_times T B) hT (hr2.mono (by first | decide | omega)) rfl T.g_row_times T.F_row_times.kp (bd_row_times T) (L2N.takes_of rfl rfl rfl rfl) (da_d (dv (i := 1)) (da_d (dv (i := 2)) (da_d (dv (i := 8)) da_nil)))))))) (dss_cons (ds_expr (de_app (tv (i := 10)) (de_heardF T.F__law_rw_heard (bd__law_rw_heard T) sc__law_rw_heard rfl T.g__law_rw_heard rfl (.inl rfl) hT (hg__law_rw_heard T _) (B ("_law_rw_refused_right", none) (by decide +kernel)) rfl (tt_mem (p := ("_law_rw_refused_right", none)) (by decide +kernel)) (tt_un (p := ("_law_rw_refused_right", none)) T.nd (by decide +kernel)) hr (LamX.lamS_by (by kernel_rfl)) rfl (fun _ _ _ _ _ => rfl) (fun E A outer s H f c' hr2 => (de_call (ok_even T B) hT (hr2.mono (by first | decide | omega)) rfl T.g_even T.F_even.kp (bd_even T) (L2N.takes_of rfl rfl rfl rfl) (da_d (dv (i := 1)) (da_d (dv (i := 9)) da_nil))))))) (dss_one (ds_ret (de_call (ok__law_fb_same T B) hT (hr.mono (by first | decide | omega)) rfl T.g__law_fb_same T.F__law_fb_same.kp (bd__law_fb_same T) tk (da_d (dv (i := 10)) (da_d (de_op op_addA v2_add (dv (i := 11)) (DO.frz (do_lst (dl_cons (de_tup (dl_cons (de_str (by decide +kernel)) (dl_cons (de_call (ok__law_rw_fault T B) hT (hr.mono (by first | decide | omega)) rfl T.g__law_rw_fault T.F__law_rw_fault.kp (bd__law_rw_fault T) tk (da_d (dv (i := 1)) (da_d (dv (i := 6)) (da_d (dv (i := 12)) da_nil)))) dl_nil))) (dl_cons (de_tup (dl_cons (de_str (by decide +kernel)) (dl_cons (dv (i := 8)) dl_nil))) (dl_cons (de_tup (dl_cons (de_str (by decide +kernel)) (dl_cons (dv (i := 9)) dl_nil))) dl_nil)))))) da_nil)))))))))))))))))))))))))
theorem sc__law_rw_hand_right : FnScope ["climb", "room", "big", "got", "owed", "each"] [] (defScope s__law_rw_hand_right) := ⟨rfl, rfl, rfl, by decide +kernel, rfl, by decide +kernel, by decide +kernel⟩
theorem bd__law_rw_hand_right (T : Tx K mg) : Binds K (fdOf K ("_law_rw_hand_right", none)) [] [] := T.F__law_rw_hand_right.binds fun _ _ _ _ _ us hl => match us, hl with | [], _ => rfl
theorem ok__law_rw_hand_right (T : Tx K mg) (B : TB K mg base tf) : FnOk P w K mg base (L2N.CX P w) 14 (He.fAd K ("_law_rw_hand_right", none)) (fdOf K ("_law_rw_hand_right", none)) [] (spD K mg (TTof K tf) 0 m__law_rw_hand_right) :=
  fn_ok (N := ["climb", "room", "big", "got", "owed", "each"]) T.F__law_rw_hand_right sc__law_rw_hand_right fun A outer s H E Z hr hT tk pp => ((dss_cons (ds_asg (de_tup (dl_cons (de_tup (dl_cons de_int (dl_cons de_int (dl_cons de_int dl_nil)))) (dl_cons (de_tup (dl_cons de_int (dl_cons de_int (dl_cons de_int dl_nil)))) (dl_cons (de_call0 (ok__law_fb_big T B) hT (hr.mono (by decide)) rfl T.g__law_fb_big T.F__law_fb_big.kp (bd__law_fb_big T)) dl_nil)))) (dg_tup rfl (dgs_cons (dgv sc__law_rw_hand_right.nd (i := 0)) (dgs_cons (dgv sc__law_rw_hand_right.nd (i := 1)) (dgs_cons (dgv sc__law_rw_hand_right.nd (i := 2)) dgs_nil))))) (dss_cons (ds_setO (i := 3) sc__law_rw_hand_right.nd rfl (.inl rfl) (do_lst (dl_cons (de_heardF T.F__law_rw_heard (bd__law_rw_heard T) sc__law_rw_heard rfl T.g__law_rw_heard rfl (.inl rfl) hT (hg__law_rw_heard T _) (B ("_law_rw_hand_right", none) (by decide +kernel)) rfl (tt_mem (p := ("_law_rw_hand_right", none)) (by decide +kernel)) (tt_un (p := ("_law_rw_hand_right", none)) T.nd (by decide +kernel)) hr (LamX.lamS_by (by kernel_rfl)) rfl (fun _ _ _ _ _ => rfl) (fun E A outer s H f c' hr2 => (DO.frz (do_lst (dl_cons (de_call (ok_row_sum T B) hT (hr2.mono (by first | decide | omega)) rfl T.g_row_sum T.F_row_sum.kp (bd_row_sum T) (L2N.takes_of rfl rfl rfl rfl) (da_d de_int (da_d (dv (i := 0)) (da_d (de_tup (dl_cons de_int (dl_cons de_int (dl_cons de_int dl_nil)))) da_nil)))) (dl_cons (de_call (ok_row_top T B) hT (hr2.mono (by first | decide | omega)) rfl T.g_row_top T.F_row_top.kp (bd_row_top T) (L2N.takes_of rfl rfl rfl rfl) (da_d de_int (da_d (dv (i := 0)) (da_d (de_tup (dl_cons de_int (dl_cons de_int (dl_cons de_int dl_nil)))) da_nil)))) dl_nil)))))) dl_nil))) (dss_cons (ds_expr (de_app (tv (i := 3)) (de_heardF T.F__law_rw_heard (bd__law_rw_heard T) sc__law_rw_heard rfl T.g__law_rw_heard rfl (.inl rfl) hT (hg__law_rw_heard T _) (B ("_law_rw_hand_right", none) (by decide +kernel)) rfl (tt_mem (p := ("_law_rw_hand_right", none)) (by decide +kernel)) (tt_un (p := ("_law_rw_hand_right", none)) T.nd (by decide +kernel)) hr (LamX.lamS_by (by kernel_rfl)) rfl (fun _ _ _ _ _ => rfl) (fun E A outer s H f c' hr2 => (DO.frz (do_lst (dl_cons (de_call (ok_row_times T B) hT (hr2.mono (by first | decide | omega)) rfl T.g_row_times T.F_row_times.kp (bd_row_times T) (L2N.takes_of rfl rfl rfl rfl) (da_d de_int (da_d (dv (i := 0)) (da_d de_int da_nil)))) (dl_cons (de_call (ok_row_times T B) hT (hr2.mono (by first | decide | omega)) rfl T.g_row_times T.F_row_times.kp (bd_row_times T) (L2N.takes_of rfl rfl rfl rfl) (da_d de_int (da_d (dv (i := 0)) (da_d de_int da_nil)))) (dl_cons (de_call (ok_even T B) hT (hr2.mono (by first | decide | omega)) rfl T.g_even T.F_even.kp (bd_even T) (L2N.takes_of rfl rfl rfl rfl) (da_d de_int (da_d de_int da_nil))) (dl_cons (de_call (ok_even T B) hT (hr2.mono (by first | decide | omega)) rfl T.g_even T.F_even.kp (bd_even T) (L2N.takes_of rfl rfl rfl rfl) (da_d de_int (da_d de_int da_nil))) dl_nil)))))))))) (dss_cons (ds_expr (de_app (tv (i := 3)) (de_heardF T.F__law_rw_heard (bd__law_rw_heard T) sc__law_rw_heard rfl T.g__law_rw_heard rfl (.inl rfl) hT (hg__law_rw_heard T _) (B ("_law_rw_hand_right", none) (by decide +kernel)) rfl (tt_mem (p := ("_law_rw_hand_right", none)) (by decide +kernel)) (tt_un (p := ("_law_rw_hand_right", none)) T.nd (by decide +kernel)) hr (LamX.lamS_by (by kernel_rfl)) rfl (fun _ _ _ _ _ => rfl) (fun E A outer s H f c' hr2 => (DO.frz (do_lst (dl_cons (de_call (ok_row_below T B) hT (hr2.mono (by first | decide | omega)) rfl T.g_row_below T.F_row_below.kp (bd_row_below T) (L2N.takes_of rfl rfl rfl rfl) (da_d de_int (da_d (dv (i := 0)) (da_d (dv (i := 1)) da_nil)))) (dl_cons (de_call (ok_row_below T B) hT (hr2.mono (by first | decide | omega)) rfl T.g_row_below T.F_row_below.kp (bd_row_below T) (L2N.takes_of rfl rfl rfl rfl) (da_d de_int (da_d (dv (i := 0)) (da_d (dv (i := 0)) da_nil)))) dl_nil)))))))) (dss_cons (ds_expr (de_app (tv (i := 3)) (de_heardF T.F__law_rw_heard (bd__law_rw_heard T) sc__law_rw_heard rfl T.g__law_rw_heard rfl (.inl rfl) hT (hg__law_rw_heard T _) (B ("_law_rw_hand_right", none) (by decide +kernel)) rfl (tt_mem (p := ("_law_rw_hand_right", none)) (by decide +kernel)) (tt_un (p := ("_law_rw_hand_right", none)) T.nd (by decide +kernel)) hr (LamX.lamS_by (by kernel_rfl)) rfl (fun _ _ _ _ _ => rfl) (fun E A outer s H f c' hr2 => (de_call (ok_row_below T B) hT (hr2.mono (by first | decide | omega)) rfl T.g_row_below T.F_row_below.kp (bd_row_below T) (L2N.takes_of rfl rfl rfl rfl) (da_d de_int (da_d (dv (i := 1)) (da_d (dv (i := 0)) da_nil)))))))) (dss_cons (ds_expr (de_app (tv (i := 3)) (de_heardF T.F__law_rw_heard (bd__law_rw_heard T) sc__law_rw_heard rfl T.g__law_rw_heard rfl (.inl rfl) hT (hg__law_rw_heard T _) (B ("_law_rw_hand_right", none) (by decide +kernel)) rfl (tt_mem (p := ("_law_rw_hand_right", none)) (by decide +kernel)) (tt_un (p := ("_law_rw_hand_right", none)) T.nd (by decide +kernel)) hr (LamX.lamS_by (by kernel_rfl)) rfl (fun _ _ _ _ _ => rfl) (fun E A outer s H f c' hr2 => (DO.frz (do_lst (dl_cons (de_call (ok_row_sum T B) hT (hr2.mono (by first | decide | omega)) rfl T.g_row_sum T.F_row_sum.kp (bd_row_sum T) (L2N.takes_of rfl rfl rfl rfl) (da_d de_int (da_d (de_tup (dl_cons (dv (i := 2)) dl_nil)) (da_d (de_tup (dl_cons de_int dl_nil)) da_nil)))) (dl_cons (de_call (ok_row_times T B) hT (hr2.mono (by first | decide | omega)) rfl T.g_row_times T.F_row_times.kp (bd_row_times T) (L2N.takes_of rfl rfl rfl rfl) (da_d de_int (da_d (de_op op_mulA v2_mul (de_tup (dl_cons (dv (i := 2)) dl_nil)) de_int) (da_d de_int da_nil)))) dl_nil)))))))) (dss_cons (ds_setO (i := 4) sc__law_rw_hand_right.nd rfl (.inl rfl) (do_lst (dl_cons (DO.frz (do_lst (dl_cons (de_tup (dl_cons de_int (dl_cons de_int (dl_cons de_int dl_nil)))) (dl_cons (de_tup (dl_cons de_int (dl_cons de_int (dl_cons de_int dl_nil)))) dl_nil)))) (dl_cons (DO.frz (do_lst (dl_cons (de_tup (dl_cons de_int (dl_cons de_int (dl_cons de_int dl_nil)))) (dl_cons (de_tup (dl_cons de_int (dl_cons de_int (dl_cons de_int dl_nil)))) (dl_cons (dv (i := 1)) (dl_cons (de_tup (dl_cons de_int dl_nil)) dl_nil)))))) (dl_cons (DO.frz (do_lst (dl_cons de_bl (dl_cons de_bl dl_nil)))) (dl_cons de_bl dl_nil)))))) (dss_cons (ds_expr (de_app (tv (i := 4)) (DO.frz (do_lst (dl_cons (de_tup (dl_cons (de_op op_addA v2_add (dv (i := 2)) de_int) dl_nil)) (dl_cons (de_op op_mulA v2_mul (de_tup (dl_cons (de_op op_mulA v2_mul (dv (i := 2)) de_int) dl_nil)) de_int) dl_nil)))))) (dss_cons (ds_expr (de_app (tv (i := 3)) (de_heardF T.F__law_rw_heard (bd__law_rw_heard T) sc__law_rw_heard rfl T.g__law_rw_heard rfl (.inl rfl) hT (hg__law_rw_heard T _) (B ("_law_rw_hand_right", none) (by decide +kernel)) rfl (tt_mem (p := ("_law_rw_hand_right", none)) (by decide +kernel)) (tt_un (p := ("_law_rw_hand_right", none)) T.nd (by decide +kernel)) hr (LamX.lamS_by (by kernel_rfl)) rfl (fun _ _ _ _ _ => rfl) (fun E A outer s H f c' hr2 => (DO.frz (do_lst (dl_cons (de_call (ok_is_row T B) hT (hr2.mono (by first | decide | omega)) rfl T.g_is_row T.F_is_row.kp (bd_is_row T) (L2N.takes_of rfl rfl rfl rfl) (da_d de_int (da_d (de_tup (dl_cons (dv (i := 2)) dl_nil)) da_nil))) (dl_cons (de_call (ok_is_row T B) hT (hr2.mono (by first | decide | omega)) rfl T.g_is_row T.F_is_row.kp (bd_is_row T) (L2N.takes_of rfl rfl rfl rfl) (da_d de_int (da_d (de_tup (dl_cons (de_op op_addA v2_add (dv (i := 2)) de_int) dl_nil)) da_nil))) (dl_cons (de_call (ok_is_limits T B) hT (hr2.mono (by first | decide | omega)) rfl T.g_is_limits T.F_is_limits.kp (bd_is_limits T) (L2N.takes_of rfl rfl rfl rfl) (da_d de_int (da_d (de_tup (dl_cons de_int dl_nil)) da_nil))) dl_nil))))))))) (dss_cons (ds_expr (de_app (tv (i := 3)) (de_heardF T.F__law_rw_heard (bd__law_rw_heard T) sc__law_rw_heard rfl T.g__law_rw_heard rfl (.inl rfl) hT (hg__law_rw_heard T _) (B ("_law_rw_hand_right", none) (by decide +kernel)) rfl (tt_mem (p := ("_law_rw_hand_right", none)) (by decide +kernel)) (tt_un (p := ("_law_rw_hand_right", none)) T.nd (by decide +kernel)) hr (LamX.lamS_by (by kernel_rfl)) rfl (fun _ _ _ _ _ => rfl) (fun E A outer s H f c' hr2 => (DO.frz (do_lst (dl_cons (de_call (ok_is_limits T B) hT (hr2.mono (by first | decide | omega)) rfl T.g_is_limits T.F_is_limits.kp (bd_is_limits T) (L2N.takes_of rfl rfl rfl rfl) (da_d de_int (da_d (de_tup (dl_cons de_int dl_nil)) da_nil))) (dl_cons (de_call (ok_even T B) hT (hr2.mono (by first | decide | omega)) rfl T.g_even T.F_even.kp (bd_even T) (L2N.takes_of rfl rfl rfl rfl) (da_d de_int (da_d de_int da_nil))) dl_nil)))))))) (dss_cons (ds_expr (de_ext (tv (i := 4)) (DO.frz (do_lst (dl_cons (DO.frz (do_lst (dl_cons de_bl (dl_cons de_bl (dl_cons de_bl dl_nil))))) (dl_cons (DO.frz (do_lst (dl_cons de_bl (dl_cons (de_op op_mulA v2_mul (de_tup (dl_cons de_int dl_nil)) de_int) dl_nil)))) dl_nil)))))) (dss_cons (ds_expr (de_app (tv (i := 3)) (de_heardF T.F__law_rw_heard (bd__law_rw_heard T) sc__law_rw_heard rfl T.g__law_rw_heard rfl (.inl rfl) hT (hg__law_rw_heard T _) (B ("_law_rw_hand_right", none) (by decide +kernel)) rfl (tt_mem (p := ("_law_rw_hand_right", none)) (by decide +kernel)) (tt_un (p := ("_law_rw_hand_right", none)) T.nd (by decide +kernel)) hr (LamX.lamS_by (by kernel_rfl)) rfl (fun _ _ _ _ _ => rfl) (fun E A outer s H f c' hr2 => (de_call (ok_made_row T B) hT (hr2.mono (by first | decide | omega)) rfl T.g_made_row T.F_made_row.kp (bd_made_row T) (L2N.takes_of rfl rfl rfl rfl) (da_d de_int (da_d (de_tup dl_nil) da_nil))))))) (dss_cons (ds_expr (de_app (tv (i := 3)) (de_heardF T.F__law_rw_heard (bd__law_rw_heard T) sc__law_rw_heard rfl T.g__law_rw_heard rfl (.inl rfl) hT (hg__law_rw_heard T _) (B ("_law_rw_hand_right", none) (by decide +kernel)) rfl (tt_mem (p := ("_law_rw_hand_right", none)) (by decide +kernel)) (tt_un (p := ("_law_rw_hand_right", none)) T.nd (by decide +kernel)) hr (LamX.lamS_by (by kernel_rfl)) rfl (fun _ _ _ _ _ => rfl) (fun E A outer s H f c' hr2 => (de_call (ok_made_limits T B) hT (hr2.mono (by first | decide | omega)) rfl T.g_made_limits T.F_made_limits.kp (bd_made_limits T) (L2N.takes_of rfl rfl rfl rfl) (da_d de_int (da_d (de_tup (dl_cons de_int (dl_cons de_int dl_nil))) da_nil))))))) (dss_cons (ds_expr (de_app (tv (i := 3)) (de_heardF T.F__law_rw_heard (bd__law_rw_heard T) sc__law_rw_heard rfl T.g__law_rw_heard rfl (.inl rfl) hT (hg__law_rw_heard T _) (B ("_law_rw_hand_right", none) (by decide +kernel)) rfl (tt_mem (p := ("_law_rw_hand_right", none)) (by decide +kernel)) (tt_un (p := ("_law_rw_hand_right", none)) T.nd (by decide +kernel)) hr (LamX.lamS_by (by kernel_rfl)) rfl (fun _ _ _ _ _ => rfl) (fun E A outer s H f c' hr2 => (de_call (ok_made_row T B) hT (hr2.mono (by first | decide | omega)) rfl T.g_made_row T.F_made_row.kp (bd_made_row T) (L2N.takes_of rfl rfl rfl rfl) (da_d de_int (da_d (de_tup (dl_cons de_int (dl_cons (de_op op_addA v2_add (dv (i := 2)) de_int) dl_nil))) da_nil))))))) (dss_one (ds_ret (de_call (ok__law_fb_same T B) hT (hr.mono (by first | decide | omega)) rfl T.g__law_fb_same T.F__law_fb_same.kp (bd__law_fb_same T) tk (da_d (dv (i := 3)) (da_d (de_op op_addA v2_add (DO.frz (do_lc (own := [("each", 5)]) rfl sc__law_rw_hand_right.nd (di_seq (dv (i := 4))) (blk_by (by kernel_rfl)) (by decide) (fun s H C cl fp => (dgv sc__law_rw_hand_right.nd (i := 5))) (fun s H C cl fp => dts_nil) (fun s H C cl fp => (de_tup (dl_cons (de_str (by decide +kernel)) (dl_cons (dv (i := 5)) dl_nil)))))) (DO.frz (do_lst (dl_cons (de_tup (dl_cons (de_str (by decide +kernel)) (dl_cons de_int dl_nil))) (dl_cons (de_tup (dl_cons (de_str (by decide +kernel)) (dl_cons de_int dl_nil))) (dl_cons (de_tup (dl_cons (de_str (by decide +kernel)) (dl_cons de_int dl_nil))) dl_nil)))))) da_nil))))))))))))))))))))
theorem sc_law : FnScope ["script", "jar", "go", "n", "one", "two", "near", "thing", "k", "other", "x"] ["script"] (defScope s_law) := ⟨rfl, rfl, rfl, by decide +kernel, rfl, by decide +kernel, by decide +kernel⟩
theorem bd_law (T : Tx K mg) : Binds K (fdOf K ("law", none)) ["script"] [] := T.F_law.binds fun _ _ _ _ _ us hl => match us, hl with | [_], _ => rfl
theorem ok_law (T : Tx K mg) (B : TB K mg base tf) : FnOk P w K mg base (L2N.CX P w) 17 (He.fAd K ("law", none)) (fdOf K ("law", none)) ["script"] (spS K mg (TTof K tf) 1 m_law) :=
  fn_okS fun ad ns => fn_okG (N := ["script", "jar", "go", "n", "one", "two", "near", "thing", "k", "other", "x"]) T.F_law sc_law fun A outer s H E Z hr hT hE tk pp => ((dss_cons (ds_setO (i := 1) sc_law.nd rfl (.inr rfl) (do_callP (ok__law_pool T B) hT hE (hr.mono (by decide)) rfl T.g__law_pool T.F__law_pool.kp (bd__law_pool T) (tv (i := 0)))) (dss_cons (ds_for pp rfl (di_range1 rfl T.n_range de_int) (dgv sc_law.nd (i := 2)) (dss_cons (ds_set (i := 3) sc_law.nd rfl (.inr rfl) (de_call (ok__law_one T B) hT (hr.mono (by first | decide | omega)) rfl T.g__law_one T.F__law_one.kp (bd__law_one T) tk (da_s (tv (i := 1)) (da_d (DO.frz (do_lst (dl_cons de_int (dl_cons de_int (dl_cons de_int (dl_cons de_int (dl_cons de_int (dl_cons de_int (dl_cons de_int dl_nil))))))))) da_nil)))) (dss_cons (ds_par (i := 4) (j := 5) rfl sc_law.nd rfl rfl (by decide) rfl rfl (dr_d (de_call (ok__law_rw_row T B) hT (hr.mono (by first | decide | omega)) rfl T.g__law_rw_row T.F__law_rw_row.kp (bd__law_rw_row T) tk (da_s (tv (i := 1)) (da_d (dv (i := 3)) da_nil))) (dr_d (de_call (ok__law_rw_row T B) hT (hr.mono (by first | decide | omega)) rfl T.g__law_rw_row T.F__law_rw_row.kp (bd__law_rw_row T) tk (da_s (tv (i := 1)) (da_d (dv (i := 3)) da_nil))) dr_nil))) (dss_cons (ds_set (i := 6) sc_law.nd rfl (.inl rfl) (de_callT call_tuple_of vl_tup rfl T.n_tuple (by decide +kernel) (dl_cons (DO.frz (do_lc (own := [("x", 10)]) rfl sc_law.nd (di_seq (dv (i := 4))) (blk_by (by kernel_rfl)) (by decide) (fun s H C cl fp => (dgv sc_law.nd (i := 10))) (fun s H C cl fp => dts_nil) (fun s H C cl fp => (de_callB (call_max2 rfl) vl_max rfl T.n_max (by decide +kernel) (dl_cons de_int (dl_cons (de_op op_sub v2_sub (dv (i := 10)) (de_call (ok__law_take T B) hT (hr.mono (by first | decide | omega)) rfl T.g__law_take T.F__law_take.kp (bd__law_take T) takesN0 (da_s (tv (i := 1)) (da_d de_int da_nil)))) dl_nil)))))) dl_nil))) (dss_cons (ds_for pp rfl (di_seq (de_op op_addA v2_add (de_call (ok__law_rw_things T B) hT (hr.mono (by first | decide | omega)) rfl T.g__law_rw_things T.F__law_rw_things.kp (bd__law_rw_things T) tk (da_s (tv (i := 1)) (da_d (dv (i := 4)) da_nil))) (DO.frz (do_lst (dl_cons (de_callT call_tuple_of vl_tup rfl T.n_tuple (by decide +kernel) (dl_cons (DO.frz (do_lc (own := [("x", 10)]) rfl sc_law.nd (di_seq (dv (i := 5))) (blk_by (by kernel_rfl)) (by decide) (fun s H C cl fp => (dgv sc_law.nd (i := 10))) (fun s H C cl fp => dts_nil) (fun s H C cl fp => (de_op op_mod v2_mod (de_callT call_int1 vl_int rfl T.n_int (by decide +kernel) (dl_cons (dv (i := 10)) dl_nil)) de_int)))) dl_nil)) dl_nil))))) (dgv sc_law.nd (i := 7)) (dss_one (ds_if (dt_not (dt_tru (de_call (ok__law_rw_forms_right T B) hT (hr.mono (by first | decide | omega)) rfl T.g__law_rw_forms_right T.F__law_rw_forms_right.kp (bd__law_rw_forms_right T) tk (da_d (dv (i := 3)) (da_d (dv (i := 7)) da_nil))))) (dss_one (ds_ret de_bl)) dss_nil))) (dss_cons (ds_set (i := 8) sc_law.nd rfl (.inr rfl) (de_call (ok__law_one T B) hT (hr.mono (by first | decide | omega)) rfl T.g__law_one T.F__law_one.kp (bd__law_one T) tk (da_s (tv (i := 1)) (da_d (DO.frz (do_lst (dl_cons de_int (dl_cons de_int (dl_cons de_int (dl_cons de_int (dl_cons de_int (dl_cons (de_call (ok__law_take T B) hT (hr.mono (by first | decide | omega)) rfl T.g__law_take T.F__law_take.kp (bd__law_take T) tk (da_s (tv (i := 1)) (da_d de_int da_nil))) dl_nil)))))))) da_nil)))) (dss_cons (ds_for pp rfl (di_seq (DO.frz (do_lst (dl_cons (dv (i := 5)) (dl_cons (dv (i := 6)) (dl_cons (dv (i := 4)) dl_nil)))))) (dgv sc_law.nd (i := 9)) (dss_one (ds_if (DW.dt (dw_or (dt_not (dt_tru (de_call (ok__law_rw_told_right T B) hT (hr.mono (by first | decide | omega)) rfl T.g__law_rw_told_right T.F__law_rw_told_right.kp (bd__law_rw_told_right T) tk (da_d (dv (i := 3)) (da_d (dv (i := 4)) (da_d (dv (i := 9)) (da_d (dv (i := 8)) da_nil))))))) (dw_or1 (dt_not (dt_tru (de_call (ok__law_rw_told_right T B) hT (hr.mono (by first | decide | omega)) rfl T.g__law_rw_told_right T.F__law_rw_told_right.kp (bd__law_rw_told_right T) tk (da_d (dv (i := 3)) (da_d (dv (i := 9)) (da_d (dv (i := 4)) (da_d (dv (i := 8)) da_nil)))))))))) (dss_one (ds_ret de_bl)) dss_nil))) (dss_cons (ds_if (dt_not (dt_tru (de_call (ok__law_rw_refused_right T B) hT (hr.mono (by first | decide | omega)) rfl T.g__law_rw_refused_right T.F__law_rw_refused_right.kp (bd__law_rw_refused_right T) tk (da_s (tv (i := 1)) (da_d (dv (i := 3)) (da_d (dv (i := 4)) (da_d (dv (i := 5)) da_nil))))))) (dss_one (ds_ret de_bl)) dss_nil) (dss_cons (ds_set (i := 8) sc_law.nd rfl (.inr rfl) (de_call (ok__law_take T B) hT (hr.mono (by first | decide | omega)) rfl T.g__law_take T.F__law_take.kp (bd__law_take T) tk (da_s (tv (i := 1)) (da_d de_int da_nil)))) (dss_one (ds_if (dt_not (dt_tru (de_call (ok__law_fb_same T B) hT (hr.mono (by first | decide | omega)) rfl T.g__law_fb_same T.F__law_fb_same.kp (bd__law_fb_same T) tk (da_d (de_heardF T.F__law_rw_heard (bd__law_rw_heard T) sc__law_rw_heard rfl T.g__law_rw_heard rfl (.inl rfl) hT (hg__law_rw_heard T _) (B ("law", none) (by decide +kernel)) rfl (tt_mem (p := ("law", none)) (by decide +kernel)) (tt_un (p := ("law", none)) T.nd (by decide +kernel)) hr (LamX.lamS_by (by kernel_rfl)) rfl (fun _ _ _ _ _ => rfl) (fun E A outer s H f c' hr2 => (de_call (ok_even T B) hT (hr2.mono (by first | decide | omega)) rfl T.g_even T.F_even.kp (bd_even T) (L2N.takes_of rfl rfl rfl rfl) (da_d (dv (i := 3)) (da_d (dv (i := 8)) da_nil))))) (da_d (de_tup (dl_cons (de_str (by decide +kernel)) (dl_cons (de_op op_mulA v2_mul (de_tup (dl_cons (dv (i := 8)) dl_nil)) (dv (i := 3))) dl_nil))) da_nil))))) (dss_one (ds_ret de_bl)) dss_nil))))))))))) (dss_one (ds_ret (de_call0 (ok__law_rw_hand_right T B) hT (hr.mono (by decide)) rfl T.g__law_rw_hand_right T.F__law_rw_hand_right.kp (bd__law_rw_hand_right T)))))))
end
end LW

set_option Elab.async false
set_option linter.all false
set_option maxRecDepth 100000
set_option maxHeartbeats 0

namespace LW
open PySem PySem.Spec PyProof.Rows L2 DL
def fn : List He.DefD := ([mkD ("whole", none) "whole" "whole" s_whole, mkD ("many", none) "many" "many" s_many, mkD ("great", none) "great" "great" s_great, mkD ("states_of", none) "states_of" "states_of" s_states_of, mkD ("wrong_entry", none) "wrong_entry" "wrong_entry" s_wrong_entry, mkD ("asked_row", none) "asked_row" "asked_row" s_asked_row, mkD ("made_row", none) "made_row" "made_row" s_made_row, mkD ("is_row", none) "is_row" "is_row" s_is_row, mkD ("asked_limits", none) "asked_limits" "asked_limits" s_asked_limits, mkD ("made_limits", none) "made_limits" "made_limits" s_made_limits, mkD ("is_limits", none) "is_limits" "is_limits" s_is_limits, mkD ("even", none) "even" "even" s_even, mkD ("asked_rows", none) "asked_rows" "asked_rows" s_asked_rows, mkD ("row_sum", none) "row_sum" "row_sum" s_row_sum, mkD ("row_top", none) "row_top" "row_top" s_row_top, mkD ("row_times", none) "row_times" "row_times" s_row_times, mkD ("row_below", none) "row_below" "row_below" s_row_below, mkD ("_law_pool", none) "_law_pool" "_law_pool" s__law_pool, mkD ("_law_take", none) "_law_take" "_law_take" s__law_take, mkD ("_law_one", none) "_law_one" "_law_one" s__law_one, mkD ("_law_fb_is", none) "_law_fb_is" "_law_fb_is" s__law_fb_is, mkD ("_law_fb_same", none) "_law_fb_same" "_law_fb_same" s__law_fb_same, mkD ("_law_fb_big", none) "_law_fb_big" "_law_fb_big" s__law_fb_big, mkD ("_law_fb_bent", none) "_law_fb_bent" "_law_fb_bent" s__law_fb_bent, mkD ("_law_rw_heard", none) "_law_rw_heard" "_law_rw_heard" s__law_rw_heard, mkD ("_law_rw_fault", none) "_law_rw_fault" "_law_rw_fault" s__law_rw_fault, mkD ("_law_rw_row", none) "_law_rw_row" "_law_rw_row" s__law_rw_row, mkD ("_law_rw_forms_right", none) "_law_rw_forms_right" "_law_rw_forms_right" s__law_rw_forms_right, mkD ("_law_rw_things", none) "_law_rw_things" "_law_rw_things" s__law_rw_things, mkD ("_law_rw_told_right", none) "_law_rw_told_right" "_law_rw_told_right" s__law_rw_told_right] : List (He.DefD)) ++ ([mkD ("_law_rw_refused_right", none) "_law_rw_refused_right" "_law_rw_refused_right" s__law_rw_refused_right, mkD ("_law_rw_hand_right", none) "_law_rw_hand_right" "_law_rw_hand_right" s__law_rw_hand_right, mkD ("law", none) "law" "law" s_law, mkD ("Refused", some "__init__") "__init__" "Refused.__init__" s_init] : List (He.DefD))
def fa : List He.Fa := ([.glo "whole", .glo "many", .glo "great", .glo "states_of", .glo "wrong_entry", .glo "asked_row", .glo "made_row", .glo "is_row", .glo "asked_limits", .glo "made_limits", .glo "is_limits", .glo "even", .glo "asked_rows", .glo "row_sum", .glo "row_top", .glo "row_times", .glo "row_below", .glo "_law_pool", .glo "_law_take", .glo "_law_one", .glo "_law_fb_is", .glo "_law_fb_same", .glo "_law_fb_big", .glo "_law_fb_bent", .glo "_law_rw_heard", .glo "_law_rw_fault", .glo "_law_rw_row", .glo "_law_rw_forms_right", .glo "_law_rw_things", .glo "_law_rw_told_right"] : List (He.Fa)) ++ ([.glo "_law_rw_refused_right", .glo "_law_rw_hand_right", .glo "law", .free "ValueError", .free "bool", .free "enumerate", .free "int", .free "isinstance", .free "len", .free "list", .free "max", .free "range", .free "str", .free "tuple", .int "MOST_STATES" 16, .int "MOST_LIMIT" 250, .int "MOST_TIMES" 1000000] : List (He.Fa))
def ex (K : PySem.W.Frag) : Bool := veB K && (ndT K tf && ((errs.all fun c => errB K "Refused" c) && errs.all fun c => asked.all fun d => kindB K c d (isE c d)))
abbrev R : PySem.W.OpenRow := PySem.W.OpenLaw.row PySem.Challenge.rw_fewstories_k07_rows_and_limits
abbrev hk : PySem.W.Hook := He.hookX 6 fa fn [] tf ex
def ob (s : PySem.W.SharedT) : He.AlX := He.obsX 6 fa fn [] tf ex (HandSHeadRun.getT s)
theorem ob_eq (s : PySem.W.SharedT) : ob s = hk.obs s.abs := He.obsX_eq (HandSHeadRun.getT_eq s)
def loose : List Str := (["Refused", "BadMany", "BadRow", "BadLimits", "whole", "many", "great", "MOST_STATES", "states_of", "MOST_LIMIT", "wrong_entry", "asked_row", "made_row", "is_row", "asked_limits", "made_limits", "is_limits", "even", "MOST_TIMES", "asked_rows", "row_sum", "row_top", "row_times", "row_below", "_law_pool", "_law_take", "_law_one", "_law_fb_is", "_law_fb_same", "_law_fb_big"] : List (Str)) ++ (["_law_fb_bent", "_law_rw_heard", "_law_rw_fault", "_law_rw_row", "_law_rw_forms_right", "_law_rw_things", "_law_rw_told_right", "_law_rw_refused_right", "_law_rw_hand_right"] : List (Str))
theorem run (w : World) : HandSHeadRun.RunEq R (PySem.W.view R.prog [44]) hk ob 9000 loose w := by
  intro os
  kernel_rfl
theorem tx_of {h : Heap} {K : PySem.W.Frag} {mg : Str → Option Value} {w : World} (X : K.In h) (G : h.Ns mainGlobals mg) (c : He.SaysX fa fn [] tf ex w h K) : Tx K mg := by
  obtain ⟨ev, e0⟩ := He.ba c.more
  obtain ⟨en, e0⟩ := He.ba e0
  obtain ⟨ee, ek⟩ := He.ba e0
  exact {
    g_whole := He.glo_ok X G (c.t.d.fact 0 (f := .glo "whole") rfl)
    F_whole := funC_of c.t.d (p := ("whole", none)) (List.mem_of_getElem? (i := 0) rfl)
    g_many := He.glo_ok X G (c.t.d.fact 1 (f := .glo "many") rfl)
    F_many := funC_of c.t.d (p := ("many", none)) (List.mem_of_getElem? (i := 1) rfl)
    g_great := He.glo_ok X G (c.t.d.fact 2 (f := .glo "great") rfl)
    F_great := funC_of c.t.d (p := ("great", none)) (List.mem_of_getElem? (i := 2) rfl)
    g_states_of := He.glo_ok X G (c.t.d.fact 3 (f := .glo "states_of") rfl)
    F_states_of := funC_of c.t.d (p := ("states_of", none)) (List.mem_of_getElem? (i := 3) rfl)
    g_wrong_entry := He.glo_ok X G (c.t.d.fact 4 (f := .glo "wrong_entry") rfl)
    F_wrong_entry := funC_of c.t.d (p := ("wrong_entry", none)) (List.mem_of_getElem? (i := 4) rfl)
    g_asked_row := He.glo_ok X G (c.t.d.fact 5 (f := .glo "asked_row") rfl)
    F_asked_row := funC_of c.t.d (p := ("asked_row", none)) (List.mem_of_getElem? (i := 5) rfl)
    g_made_row := He.glo_ok X G (c.t.d.fact 6 (f := .glo "made_row") rfl)
    F_made_row := funC_of c.t.d (p := ("made_row", none)) (List.mem_of_getElem? (i := 6) rfl)
    g_is_row := He.glo_ok X G (c.t.d.fact 7 (f := .glo "is_row") rfl)
    F_is_row := funC_of c.t.d (p := ("is_row", none)) (List.mem_of_getElem? (i := 7) rfl)
    g_asked_limits := He.glo_ok X G (c.t.d.fact 8 (f := .glo "asked_limits") rfl)
    F_asked_limits := funC_of c.t.d (p := ("asked_limits", none)) (List.mem_of_getElem? (i := 8) rfl)
    g_made_limits := He.glo_ok X G (c.t.d.fact 9 (f := .glo "made_limits") rfl)
    F_made_limits := funC_of c.t.d (p := ("made_limits", none)) (List.mem_of_getElem? (i := 9) rfl)
    g_is_limits := He.glo_ok X G (c.t.d.fact 10 (f := .glo "is_limits") rfl)
    F_is_limits := funC_of c.t.d (p := ("is_limits", none)) (List.mem_of_getElem? (i := 10) rfl)
    g_even := He.glo_ok X G (c.t.d.fact 11 (f := .glo "even") rfl)
    F_even := funC_of c.t.d (p := ("even", none)) (List.mem_of_getElem? (i := 11) rfl)
    g_asked_rows := He.glo_ok X G (c.t.d.fact 12 (f := .glo "asked_rows") rfl)
    F_asked_rows := funC_of c.t.d (p := ("asked_rows", none)) (List.mem_of_getElem? (i := 12) rfl)
    g_row_sum := He.glo_ok X G (c.t.d.fact 13 (f := .glo "row_sum") rfl)
    F_row_sum := funC_of c.t.d (p := ("row_sum", none)) (List.mem_of_getElem? (i := 13) rfl)
    g_row_top := He.glo_ok X G (c.t.d.fact 14 (f := .glo "row_top") rfl)
    F_row_top := funC_of c.t.d (p := ("row_top", none)) (List.mem_of_getElem? (i := 14) rfl)
    g_row_times := He.glo_ok X G (c.t.d.fact 15 (f := .glo "row_times") rfl)
    F_row_times := funC_of c.t.d (p := ("row_times", none)) (List.mem_of_getElem? (i := 15) rfl)
    g_row_below := He.glo_ok X G (c.t.d.fact 16 (f := .glo "row_below") rfl)
    F_row_below := funC_of c.t.d (p := ("row_below", none)) (List.mem_of_getElem? (i := 16) rfl)
    g__law_pool := He.glo_ok X G (c.t.d.fact 17 (f := .glo "_law_pool") rfl)
    F__law_pool := funC_of c.t.d (p := ("_law_pool", none)) (List.mem_of_getElem? (i := 17) rfl)
    g__law_take := He.glo_ok X G (c.t.d.fact 18 (f := .glo "_law_take") rfl)
    F__law_take := funC_of c.t.d (p := ("_law_take", none)) (List.mem_of_getElem? (i := 18) rfl)
    g__law_one := He.glo_ok X G (c.t.d.fact 19 (f := .glo "_law_one") rfl)
    F__law_one := funC_of c.t.d (p := ("_law_one", none)) (List.mem_of_getElem? (i := 19) rfl)
    g__law_fb_is := He.glo_ok X G (c.t.d.fact 20 (f := .glo "_law_fb_is") rfl)
    F__law_fb_is := funC_of c.t.d (p := ("_law_fb_is", none)) (List.mem_of_getElem? (i := 20) rfl)
    g__law_fb_same := He.glo_ok X G (c.t.d.fact 21 (f := .glo "_law_fb_same") rfl)
    F__law_fb_same := funC_of c.t.d (p := ("_law_fb_same", none)) (List.mem_of_getElem? (i := 21) rfl)
    g__law_fb_big := He.glo_ok X G (c.t.d.fact 22 (f := .glo "_law_fb_big") rfl)
    F__law_fb_big := funC_of c.t.d (p := ("_law_fb_big", none)) (List.mem_of_getElem? (i := 22) rfl)
    g__law_fb_bent := He.glo_ok X G (c.t.d.fact 23 (f := .glo "_law_fb_bent") rfl)
    F__law_fb_bent := funC_of c.t.d (p := ("_law_fb_bent", none)) (List.mem_of_getElem? (i := 23) rfl)
    g__law_rw_heard := He.glo_ok X G (c.t.d.fact 24 (f := .glo "_law_rw_heard") rfl)
    F__law_rw_heard := funC_of c.t.d (p := ("_law_rw_heard", none)) (List.mem_of_getElem? (i := 24) rfl)
    g__law_rw_fault := He.glo_ok X G (c.t.d.fact 25 (f := .glo "_law_rw_fault") rfl)
    F__law_rw_fault := funC_of c.t.d (p := ("_law_rw_fault", none)) (List.mem_of_getElem? (i := 25) rfl)
    g__law_rw_row := He.glo_ok X G (c.t.d.fact 26 (f := .glo "_law_rw_row") rfl)
    F__law_rw_row := funC_of c.t.d (p := ("_law_rw_row", none)) (List.mem_of_getElem? (i := 26) rfl)
    g__law_rw_forms_right := He.glo_ok X G (c.t.d.fact 27 (f := .glo "_law_rw_forms_right") rfl)
    F__law_rw_forms_right := funC_of c.t.d (p := ("_law_rw_forms_right", none)) (List.mem_of_getElem? (i := 27) rfl)
    g__law_rw_things := He.glo_ok X G (c.t.d.fact 28 (f := .glo "_law_rw_things") rfl)
    F__law_rw_things := funC_of c.t.d (p := ("_law_rw_things", none)) (List.mem_of_getElem? (i := 28) rfl)
    g__law_rw_told_right := He.glo_ok X G (c.t.d.fact 29 (f := .glo "_law_rw_told_right") rfl)
    F__law_rw_told_right := funC_of c.t.d (p := ("_law_rw_told_right", none)) (List.mem_of_getElem? (i := 29) rfl)
    g__law_rw_refused_right := He.glo_ok X G (c.t.d.fact 30 (f := .glo "_law_rw_refused_right") rfl)
    F__law_rw_refused_right := funC_of c.t.d (p := ("_law_rw_refused_right", none)) (List.mem_of_getElem? (i := 30) rfl)
    g__law_rw_hand_right := He.glo_ok X G (c.t.d.fact 31 (f := .glo "_law_rw_hand_right") rfl)
    F__law_rw_hand_right := funC_of c.t.d (p := ("_law_rw_hand_right", none)) (List.mem_of_getElem? (i := 31) rfl)
    g_law := He.glo_ok X G (c.t.d.fact 32 (f := .glo "law") rfl)
    F_law := funC_of c.t.d (p := ("law", none)) (List.mem_of_getElem? (i := 32) rfl)
    F_init := funC_of c.t.d (p := ("Refused", some "__init__")) (List.mem_of_getElem? (i := 33) rfl)
    n_ValueError := He.free_ok X G (c.t.d.fact 33 (f := .free "ValueError") rfl)
    n_bool := He.free_ok X G (c.t.d.fact 34 (f := .free "bool") rfl)
    n_enumerate := He.free_ok X G (c.t.d.fact 35 (f := .free "enumerate") rfl)
    n_int := He.free_ok X G (c.t.d.fact 36 (f := .free "int") rfl)
    n_isinstance := He.free_ok X G (c.t.d.fact 37 (f := .free "isinstance") rfl)
    n_len := He.free_ok X G (c.t.d.fact 38 (f := .free "len") rfl)
    n_list := He.free_ok X G (c.t.d.fact 39 (f := .free "list") rfl)
    n_max := He.free_ok X G (c.t.d.fact 40 (f := .free "max") rfl)
    n_range := He.free_ok X G (c.t.d.fact 41 (f := .free "range") rfl)
    n_str := He.free_ok X G (c.t.d.fact 42 (f := .free "str") rfl)
    n_tuple := He.free_ok X G (c.t.d.fact 43 (f := .free "tuple") rfl)
    c_MOST_STATES := He.int_ok X G (c.t.d.fact 44 (f := .int "MOST_STATES" 16) rfl)
    c_MOST_LIMIT := He.int_ok X G (c.t.d.fact 45 (f := .int "MOST_LIMIT" 250) rfl)
    c_MOST_TIMES := He.int_ok X G (c.t.d.fact 46 (f := .int "MOST_TIMES" 1000000) rfl)
    e := fun c hc => errB_ok X G (List.all_eq_true.mp ee c hc)
    k := fun c hc d hd => of_decide_eq_true (List.all_eq_true.mp (List.all_eq_true.mp ek c hc) d hd)
    ve := veB_ok ev
    nd := en }
end LW

set_option Elab.async false
set_option linter.all false
set_option maxRecDepth 100000
set_option maxHeartbeats 400000
namespace LW
open PySem PySem.Spec PyProof.Rows L2 DL
def wholeD : PD → Int → Int → Bool
  | .int i, lo, hi => decide (lo ≤ i) && decide (i ≤ hi)
  | _, _, _ => false
theorem m_whole_eq (x : PD) (lo hi : Int) (P E) : m_whole [.d x, .d (.int lo), .d (.int hi)] P E = P (.d (.bool (wholeD x lo hi))) [.d x, .d (.int lo), .d (.int hi)] := by
  cases x with
  | int i =>
    by_cases h : lo ≤ i <;> simp [m_whole, t_whole, wholeD, h]
  | _ => simp [m_whole, t_whole, wholeD]
theorem m_many_eq (x : PD) (lo hi : Int) (P E) : m_many [.d x, .d (.int lo), .d (.int hi)] P E = if wholeD x lo hi = true then P (.d .none) [.d x, .d (.int lo), .d (.int hi)] else E ⟨"BadMany", x⟩ [.d x, .d (.int lo), .d (.int hi)] := by
  by_cases h : wholeD x lo hi = true <;> simp [m_many, t_many, m_whole_eq, h, sRaise]
theorem m_states_of_eq (x : PD) (P E) : m_states_of [.d x] P E = if wholeD x 1 16 = true then P (.d x) [.d x] else E ⟨"BadMany", x⟩ [.d x] := by
  by_cases h : wholeD x 1 16 = true <;> simp [m_states_of, t_states_of, m_many_eq, h]
end LW

set_option Elab.async false
set_option linter.all false
set_option maxRecDepth 100000
set_option maxHeartbeats 400000
set_option exponentiation.threshold 2000
namespace LW
open PySem PySem.Spec PyProof.Rows L2 DL
def big : Int := 10 ^ 600
theorem m_great_eq (P E) : m_great [] P E = P (.d (.int big)) [] := by
  simp [m_great, t_great, rng10, sForL]
  refine ⟨fun h => ?_, fun h => ?_⟩
  · repeat (replace h := h.2)
    exact h
  · repeat (first | exact h | refine ⟨by decide +kernel, ?_⟩)
theorem m_big_eq (P E) : m__law_fb_big [] P E = P (.d (.int big)) [] := m_great_eq P E
end LW

set_option Elab.async false
set_option linter.all false
set_option maxRecDepth 100000
set_option maxHeartbeats 400000
namespace LW
open PySem PySem.Spec PyProof.Rows L2 DL
/-- the first wrong index, told as data -/
def faultL (top : Int) : Nat → List PD → PD
  | _, [] => .none
  | k, x :: r => if wholeD x 0 top = true then faultL top (k + 1) r else .int (k : Int)
def faultD (n : Int) (x : PD) (top : Int) : PD := match x with
  | .tuple xs => if (xs.length : Int) = n then faultL top 0 xs else .int (-1)
  | _ => .int (-1)
theorem faultL_k (top : Int) : ∀ (xs : List PD) (k : Nat), faultL top k xs = .none ∨ ∃ i : Int, faultL top k xs = .int i
  | [], _ => .inl rfl
  | x :: r, k => by
    unfold faultL
    split
    · exact faultL_k top r (k + 1)
    · exact .inr ⟨_, rfl⟩
theorem faultD_k (n : Int) (x : PD) (top : Int) : faultD n x top = .none ∨ ∃ i : Int, faultD n x top = .int i := by
  unfold faultD
  split
  · split
    · exact faultL_k top _ 0
    · exact .inr ⟨_, rfl⟩
  · exact .inr ⟨_, rfl⟩
def wrongB : TSd := (sIf (dNot (dTru (dCall 3 m_whole (daD (dVar 4) (daD (dC (.int 0)) (daD (dVar 2) daNil)))))) (sRet (dVar 3)) sNext)
theorem wrongB_eq (n x y z : PD) (top : Int) (D : EndsD) : wrongB D [.d n, .d x, .d (.int top), .d z, .d y] = if wholeD y 0 top = true then D.nx [.d n, .d x, .d (.int top), .d z, .d y] else D.rt (.d z) [.d n, .d x, .d (.int top), .d z, .d y] := by
  by_cases h : wholeD y 0 top = true <;> simp [wrongB, m_whole_eq, h]
theorem enum_go (n x : PD) (top : Int) (D : EndsD) (N : Prop) (R : PD → Prop) (hN : ∀ a b, D.nx [.d n, .d x, .d (.int top), a, b] = N) (hR : ∀ z a b, D.rt (.d z) [.d n, .d x, .d (.int top), a, b] = R z) : ∀ (xs : List PD) (k : Nat) (a b : SC),
    sForL (gTp 2 (gCo (gNm 3) (gCo (gNm 4) gNi))) wrongB ((xs.zipIdx k).map fun p => .tuple [.int (p.2 : Int), p.1]) D [.d n, .d x, .d (.int top), a, b] =
      (if isNone (faultL top k xs) = true then N else R (faultL top k xs))
  | [], k, a, b => by simp [sForL, faultL, hN]
  | y :: xs, k, a, b => by
    have ih := enum_go n x top D N R hN hR xs (k + 1)
    rw [List.zipIdx_cons, List.map_cons]
    have e0 : sForL (gTp 2 (gCo (gNm 3) (gCo (gNm 4) gNi))) wrongB (PyData.tuple [.int (k : Int), y] :: (xs.zipIdx (k + 1)).map fun p => .tuple [.int (p.2 : Int), p.1]) D [.d n, .d x, .d (.int top), a, b] = wrongB { D with nx := fun Γ2 => sForL (gTp 2 (gCo (gNm 3) (gCo (gNm 4) gNi))) wrongB ((xs.zipIdx (k + 1)).map fun p => .tuple [.int (p.2 : Int), p.1]) D Γ2, ct := fun Γ2 => sForL (gTp 2 (gCo (gNm 3) (gCo (gNm 4) gNi))) wrongB ((xs.zipIdx (k + 1)).map fun p => .tuple [.int (p.2 : Int), p.1]) D Γ2, bk := D.nx } [.d n, .d x, .d (.int top), .d (.int (k : Int)), .d y] := by
      simp [sForL]
    refine e0.trans ?_
    rw [wrongB_eq]
    by_cases h : wholeD y 0 top = true
    · rw [if_pos h]
      unfold faultL
      rw [if_pos h]
      exact ih _ _
    · rw [if_neg h]
      unfold faultL
      rw [if_neg h, if_neg (by simp)]
      exact hR _ _ _
theorem m_wrong_entry_eq (n : Int) (x : PD) (top : Int) (P E) : m_wrong_entry [.d (.int n), .d x, .d (.int top)] P E = P (.d (faultD n x top)) [.d (.int n), .d x, .d (.int top)] := by
  cases x with
  | tuple xs =>
    by_cases h : (xs.length : Int) = n
    · have e : t_wrong_entry = (sSeq (sIf (dOr (dNot (dTru (dIsi isTup (dVar 1)))) (dTst (d2 opNe (dL fLen (dCons (dVar 1) dNil)) (dVar 0)))) (sRet (d1 opNeg (dC (.int 1)))) sNext) (sSeq (sFor (iEn (dVar 1)) (gTp 2 (gCo (gNm 3) (gCo (gNm 4) gNi))) wrongB) (sRet (dC .none)))) := rfl
      simp [m_wrong_entry, e, faultD, h, enumD]
      rw [enum_go _ _ _ _ (P (.d .none) [.d (.int n), .d (.tuple xs), .d (.int top)]) (fun z => P (.d z) [.d (.int n), .d (.tuple xs), .d (.int top)]) (fun a b => by simp) (fun z a b => by simp)]
      rcases faultL_k top xs 0 with e | ⟨j, e⟩ <;> simp [e]
    · simp [m_wrong_entry, t_wrong_entry, faultD, h]
  | _ => simp [m_wrong_entry, t_wrong_entry, faultD]
def o_st (n : PD) (f : Int → Out) : Out := match n with
  | .int i => if wholeD n 1 16 = true then f i else .error ⟨"BadMany", n⟩
  | _ => .error ⟨"BadMany", n⟩
theorem o_st_no {n : PD} {f : Int → Out} (h : ¬ wholeD n 1 16 = true) : o_st n f = .error ⟨"BadMany", n⟩ := by
  unfold o_st
  split
  · rw [if_neg h]
  · rfl
theorem o_st_yes {i : Int} {f : Int → Out} (h : wholeD (.int i) 1 16 = true) : o_st (.int i) f = f i := if_pos h
theorem whole_int {n : PD} {lo hi : Int} (h : wholeD n lo hi = true) : ∃ i, n = .int i ∧ lo ≤ i ∧ i ≤ hi := by
  cases n with
  | int i =>
    simp [wholeD] at h
    exact ⟨i, rfl, h.1, h.2⟩
  | _ => cases h
def o_asked (c : Str) (top : Int) (n x : PD) : Out := o_st n fun i => if isNone (faultD i x top) = true then .ok x else .error ⟨c, faultD i x top⟩
theorem m_asked_row_eq (n x : PD) (P E) : m_asked_row [.d n, .d x] P E = oP (o_asked "BadRow" big n x) [.d n, .d x] P E := by
  by_cases h : wholeD n 1 16 = true
  · obtain ⟨i, rfl, -, -⟩ := whole_int h
    rcases faultD_k i x big with e | ⟨j, e⟩ <;> simp [m_asked_row, t_asked_row, m_states_of_eq, h, m_great_eq, m_wrong_entry_eq, o_asked, o_st_yes h, e]
  · simp [m_asked_row, t_asked_row, m_states_of_eq, h, o_asked, o_st_no h]
theorem m_asked_limits_eq (n x : PD) (P E) : m_asked_limits [.d n, .d x] P E = oP (o_asked "BadLimits" 250 n x) [.d n, .d x] P E := by
  by_cases h : wholeD n 1 16 = true
  · obtain ⟨i, rfl, -, -⟩ := whole_int h
    rcases faultD_k i x 250 with e | ⟨j, e⟩ <;> simp [m_asked_limits, t_asked_limits, m_states_of_eq, h, m_wrong_entry_eq, o_asked, o_st_yes h, e]
  · simp [m_asked_limits, t_asked_limits, m_states_of_eq, h, o_asked, o_st_no h]
end LW

set_option Elab.async false
set_option linter.all false
set_option maxRecDepth 100000
set_option maxHeartbeats 400000
namespace LW
open PySem PySem.Spec PyProof.Rows L2 DL
def o_row (n x : PD) : Out := o_asked "BadRow" big n x
def o_lim (n x : PD) : Out := o_asked "BadLimits" 250 n x
theorem asked_k (c : Str) (top : Int) (n x : PD) : (wholeD n 1 16 = false ∧ o_asked c top n x = .error ⟨"BadMany", n⟩) ∨ (wholeD n 1 16 = true ∧ ∃ i, n = .int i ∧ 1 ≤ i ∧ i ≤ 16 ∧ ((faultD i x top = .none ∧ o_asked c top n x = .ok x) ∨ ∃ j : Int, faultD i x top = .int j ∧ o_asked c top n x = .error ⟨c, .int j⟩)) := by
  by_cases h : wholeD n 1 16 = true
  · obtain ⟨i, rfl, h1, h2⟩ := whole_int h
    refine .inr ⟨h, i, rfl, h1, h2, ?_⟩
    rcases faultD_k i x top with e | ⟨j, e⟩
    · exact .inl ⟨e, by simp [o_asked, o_st_yes h, e]⟩
    · exact .inr ⟨j, e, by simp [o_asked, o_st_yes h, e]⟩
  · exact .inl ⟨by simpa using h, by rw [o_asked, o_st_no h]⟩
theorem m_made_row_eq (n x : PD) (P E) : m_made_row [.d n, .d x] P E = oP (o_row n x) [.d n, .d x] P E := by
  simp [m_made_row, t_made_row, m_asked_row_eq]
  rfl
theorem m_made_limits_eq (n x : PD) (P E) : m_made_limits [.d n, .d x] P E = oP (o_lim n x) [.d n, .d x] P E := by
  simp [m_made_limits, t_made_limits, m_asked_limits_eq]
  rfl
def o_is (top : Int) (n x : PD) : Out := o_st n fun i => .ok (.bool (isNone (faultD i x top)))
theorem m_is_row_eq (n x : PD) (P E) : m_is_row [.d n, .d x] P E = oP (o_is big n x) [.d n, .d x] P E := by
  by_cases h : wholeD n 1 16 = true
  · obtain ⟨i, rfl, -, -⟩ := whole_int h
    rcases faultD_k i x big with e | ⟨j, e⟩ <;> simp [m_is_row, t_is_row, m_states_of_eq, h, m_great_eq, m_wrong_entry_eq, o_is, o_st_yes h, e]
  · simp [m_is_row, t_is_row, m_states_of_eq, h, o_is, o_st_no h]
theorem m_is_limits_eq (n x : PD) (P E) : m_is_limits [.d n, .d x] P E = oP (o_is 250 n x) [.d n, .d x] P E := by
  by_cases h : wholeD n 1 16 = true
  · obtain ⟨i, rfl, -, -⟩ := whole_int h
    rcases faultD_k i x 250 with e | ⟨j, e⟩ <;> simp [m_is_limits, t_is_limits, m_states_of_eq, h, m_wrong_entry_eq, o_is, o_st_yes h, e]
  · simp [m_is_limits, t_is_limits, m_states_of_eq, h, o_is, o_st_no h]
def o_even (n k : PD) : Out := o_st n fun i => if wholeD k 0 250 = true then .ok (.tuple (repD i [k])) else .error ⟨"BadMany", k⟩
theorem m_even_eq (n k : PD) (P E) : m_even [.d n, .d k] P E = oP (o_even n k) [.d n, .d k] P E := by
  by_cases h : wholeD n 1 16 = true
  · obtain ⟨i, rfl, h1, h2⟩ := whole_int h
    have h3 : i ≤ 1000 := by omega
    by_cases hk : wholeD k 0 250 = true
    · have hz : 1 ≤ sizeLine := by decide
      simp [m_even, t_even, m_states_of_eq, m_many_eq, h, hk, o_even, o_st_yes h, h1, h3, hz]
    · simp [m_even, t_even, m_states_of_eq, m_many_eq, h, hk, o_even, o_st_yes h]
  · simp [m_even, t_even, m_states_of_eq, h, o_even, o_st_no h]
def o_rows (n a b : PD) : Out := oThen (o_row n a) fun _ => oThen (o_row n b) fun _ => .ok .none
theorem m_asked_rows_eq (n a b : PD) (P E) : m_asked_rows [.d n, .d a, .d b] P E = oP (o_rows n a b) [.d n, .d a, .d b] P E := by
  simp only [o_rows, o_row]
  cases e1 : o_asked "BadRow" big n a <;> cases e2 : o_asked "BadRow" big n b <;> simp [m_asked_rows, t_asked_rows, m_asked_row_eq, e1, e2]
/-- no fault is a row -/
theorem faultL_row (top : Int) : ∀ (xs : List PD) (k : Nat), faultL top k xs = .none → ∃ as : List Int, xs = as.map .int ∧ ∀ a ∈ as, 0 ≤ a ∧ a ≤ top
  | [], _, _ => ⟨[], rfl, by simp⟩
  | x :: r, k, h => by
    unfold faultL at h
    split at h
    · rename_i hw
      obtain ⟨i, rfl, h1, h2⟩ := whole_int hw
      obtain ⟨as, rfl, hb⟩ := faultL_row top r (k + 1) h
      exact ⟨i :: as, rfl, by simpa using ⟨⟨h1, h2⟩, hb⟩⟩
    · cases h
theorem faultL_no (top : Int) : ∀ (as : List Int) (k : Nat), (∀ a ∈ as, 0 ≤ a ∧ a ≤ top) → faultL top k (as.map .int) = .none
  | [], _, _ => rfl
  | a :: r, k, h => by
    have ha := h a (.head _)
    show (if wholeD (.int a) 0 top = true then _ else _) = _
    rw [if_pos (by simp [wholeD, ha.1, ha.2])]
    exact faultL_no top r (k + 1) fun b hb => h b (.tail _ hb)
theorem fault_row {i : Int} {x : PD} {top : Int} (h : faultD i x top = .none) (hi : 0 ≤ i) : RowD i.toNat top x := by
  unfold faultD at h
  split at h
  · split at h
    · rename_i xs hl
      obtain ⟨as, rfl, hb⟩ := faultL_row top _ 0 h
      exact ⟨as, rfl, by simp at hl; omega, hb⟩
    · cases h
  · cases h
theorem fault_no {n : Nat} {x : PD} {top : Int} (h : RowD n top x) : faultD n x top = .none := by
  obtain ⟨as, rfl, hl, hb⟩ := h
  simp [faultD, hl, faultL_no top as 0 hb]
theorem row_yes {n : Nat} {x : PD} (h : RowD n big x) (h1 : 1 ≤ n) (h2 : n ≤ 16) : o_row (.int n) x = .ok x := by
  rcases asked_k "BadRow" big (.int n) x with ⟨e, _⟩ | ⟨_, i, e, _, _, (⟨_, e2⟩ | ⟨j, e2, _⟩)⟩
  · simp [wholeD] at e; omega
  · exact e2
  · cases e
    rw [fault_no h] at e2
    cases e2
end LW

set_option Elab.async false
set_option linter.all false
set_option maxRecDepth 100000
set_option maxHeartbeats 400000
set_option exponentiation.threshold 2000
namespace LW
open PySem PySem.Spec PyProof.Rows L2 DL
theorem filt_t {l : List PD} : l.filter (fun _ => true) = l := List.filter_eq_self.mpr (by simp)
def f_sum (a b : PD) (s : PD) : PD := .int (atD a (natD s) + atD b (natD s))
def f_top (a b : PD) (s : PD) : PD := .int (if atD b (natD s) > atD a (natD s) then atD b (natD s) else atD a (natD s))
def f_times (a : PD) (k : Int) (s : PD) : PD := .int (atD a (natD s) * k)
def f_gt (a b : PD) (s : PD) : Bool := decide (atD b (natD s) < atD a (natD s))
def o_on (n a b : PD) (f : Nat → PD) : Out := oThen (o_rows n a b) fun _ => match n with
  | .int i => .ok (f i.toNat)
  | _ => .ok .none
theorem rows_k (n a b : PD) : (∃ x, o_rows n a b = .error x) ∨ (o_rows n a b = .ok .none ∧ ∃ i : Nat, n = .int i ∧ 1 ≤ i ∧ i ≤ 16 ∧ RowD i big a ∧ RowD i big b) := by
  rcases asked_k "BadRow" big n a with ⟨_, e⟩ | ⟨_, i, rfl, h1, h2, (⟨f, e⟩ | ⟨j, f, e⟩)⟩
  · exact .inl ⟨_, by simp [o_rows, o_row, e]; rfl⟩
  · rcases asked_k "BadRow" big (.int i) b with ⟨_, e2⟩ | ⟨_, i2, ei, _, _, (⟨f2, e2⟩ | ⟨j, f2, e2⟩)⟩
    · exact .inl ⟨_, by simp [o_rows, o_row, e, e2]; rfl⟩
    · cases ei
      exact .inr ⟨by simp [o_rows, o_row, e, e2], i.toNat, by rw [Int.toNat_of_nonneg (by omega)], by omega, by omega, fault_row f (by omega), fault_row f2 (by omega)⟩
    · exact .inl ⟨_, by simp [o_rows, o_row, e, e2]; rfl⟩
  · exact .inl ⟨_, by simp [o_rows, o_row, e]; rfl⟩
theorem m_row_sum_eq (n a b : PD) (P E) : m_row_sum [.d n, .d a, .d b] P E = oP (o_on n a b fun i => .tuple ((rngD 0 i).map (f_sum a b))) [.d n, .d a, .d b] P E := by
  rcases rows_k n a b with ⟨x, e⟩ | ⟨e, i, rfl, h1, h2, ⟨as, rfl, la, ba⟩, ⟨bs, rfl, lb, bb⟩⟩
  · simp [m_row_sum, t_row_sum, m_asked_rows_eq, e, o_on]
  · have h3 : (i : Int) ≤ 16777216 := by omega
    have h4 : -(2 ^ 62) ≤ (i : Int) := by omega
    simp [m_row_sum, t_row_sum, m_asked_rows_eq, e, o_on, h3, h4]
    rw [lcL_nm _ (fun _ => true) (f_sum (.tuple (as.map .int)) (.tuple (bs.map .int))) _ _ _ (fun y => rfl) (fun x hx P => by simp)]
    · simp [filt_t]
    · intro x hx _ P
      obtain ⟨k, hk, rfl⟩ := rng_mem hx
      have ka : k < as.length := by omega
      have kb : k < bs.length := by omega
      simp [f_sum, atD_map ka, atD_map kb, atI_ints ka, atI_ints kb]
theorem m_row_top_eq (n a b : PD) (P E) : m_row_top [.d n, .d a, .d b] P E = oP (o_on n a b fun i => .tuple ((rngD 0 i).map (f_top a b))) [.d n, .d a, .d b] P E := by
  rcases rows_k n a b with ⟨x, e⟩ | ⟨e, i, rfl, h1, h2, ⟨as, rfl, la, ba⟩, ⟨bs, rfl, lb, bb⟩⟩
  · simp [m_row_top, t_row_top, m_asked_rows_eq, e, o_on]
  · have h3 : (i : Int) ≤ 16777216 := by omega
    have h4 : -(2 ^ 62) ≤ (i : Int) := by omega
    simp [m_row_top, t_row_top, m_asked_rows_eq, e, o_on, h3, h4]
    rw [lcL_nm _ (fun _ => true) (f_top (.tuple (as.map .int)) (.tuple (bs.map .int))) _ _ _ (fun y => rfl) (fun x hx P => by simp)]
    · simp [filt_t]
    · intro x hx _ P
      obtain ⟨k, hk, rfl⟩ := rng_mem hx
      have ka : k < as.length := by omega
      have kb : k < bs.length := by omega
      simp [f_top, atD_map ka, atD_map kb, atI_ints ka, atI_ints kb]
theorem m_row_below_eq (n a b : PD) (P E) : m_row_below [.d n, .d a, .d b] P E = oP (o_on n a b fun i => .bool ((rngD 0 i).filter (f_gt a b)).isEmpty) [.d n, .d a, .d b] P E := by
  rcases rows_k n a b with ⟨x, e⟩ | ⟨e, i, rfl, h1, h2, ⟨as, rfl, la, ba⟩, ⟨bs, rfl, lb, bb⟩⟩
  · simp [m_row_below, t_row_below, m_asked_rows_eq, e, o_on]
  · have h3 : (i : Int) ≤ 16777216 := by omega
    have h4 : -(2 ^ 62) ≤ (i : Int) := by omega
    simp [m_row_below, t_row_below, m_asked_rows_eq, e, o_on, h3, h4]
    rw [lcL_nm _ (f_gt (.tuple (as.map .int)) (.tuple (bs.map .int))) id _ _ _ (fun y => rfl)]
    · simp
    · intro x hx P
      obtain ⟨k, hk, rfl⟩ := rng_mem hx
      have ka : k < as.length := by omega
      have kb : k < bs.length := by omega
      simp [f_gt, atD_map ka, atD_map kb, atI_ints ka, atI_ints kb]
    · intro x hx _ P
      simp
def o_times (n a k : PD) : Out := oThen (o_row n a) fun _ => match n, k with
  | .int i, .int j => if wholeD k 0 1000000 = true then .ok (.tuple ((rngD 0 i.toNat).map (f_times a j))) else .error ⟨"BadMany", k⟩
  | _, _ => .error ⟨"BadMany", k⟩
def t_times (j : Int) : PD → PD
  | .int i => .int (j * i)
  | _ => .none
theorem times_map {as : List Int} {j : Int} : (as.map PyData.int).map (t_times j) = (rngD 0 as.length).map (f_times (.tuple (as.map .int)) j) := by
  apply List.ext_getElem
  · simp [rngD]
  · intro k h1 h2
    have h3 : k < as.length := by simpa using h1
    simp [rngD, t_times, f_times, atD_map h3, Int.mul_comm]
theorem m_row_times_eq (n a k : PD) (P E) : m_row_times [.d n, .d a, .d k] P E = oP (o_times n a k) [.d n, .d a, .d k] P E := by
  rcases asked_k "BadRow" big n a with ⟨_, e⟩ | ⟨hw, i, rfl, h1, h2, (⟨f, e⟩ | ⟨j, f, e⟩)⟩
  · simp [m_row_times, t_row_times, m_asked_row_eq, e, o_times, o_row]
  · obtain ⟨as, rfl, la, ba⟩ := fault_row f (by omega)
    by_cases hk : wholeD k 0 1000000 = true
    · obtain ⟨j, rfl, j1, j2⟩ := whole_int hk
      have la2 : i.toNat = as.length := la.symm
      simp [m_row_times, t_row_times, m_asked_row_eq, m_many_eq, e, o_times, o_row, hk, la2]
      rw [lcL_nm _ (fun _ => true) (t_times j) _ _ _ (fun y => rfl) (fun x hx P => by simp)]
      · simp [filt_t, ← times_map]
      · intro x hx _ P
        obtain ⟨z, hz, rfl⟩ := List.mem_map.mp hx
        have hb := ba z hz
        have hz2 : z.natAbs < 2 ^ 2000 := by
          have : big < 2 ^ 2000 := by decide +kernel
          omega
        have m : CMulW j z := cmw (a := 20) (b := 2000) (by omega) hz2 (by decide)
        simp [t_times, m]
    · have : o_times (.int i) (.tuple (as.map .int)) k = .error ⟨"BadMany", k⟩ := by
        simp only [o_times, o_row, e, oThen]
        split
        · rw [if_neg (by simpa using hk)]
        · rfl
      simp [m_row_times, t_row_times, m_asked_row_eq, m_many_eq, e, hk, this]
  · simp [m_row_times, t_row_times, m_asked_row_eq, e, o_times, o_row]
end LW

set_option Elab.async false
set_option linter.all false
set_option maxRecDepth 100000
set_option maxHeartbeats 400000
set_option exponentiation.threshold 2000
namespace LW
open PySem PySem.Spec PyProof.Rows L2 DL
theorem m_is_eq (x : PD) (lo hi : Int) (P E) : m__law_fb_is [.d x, .d (.int lo), .d (.int hi)] P E = P (.d (.bool (wholeD x lo hi))) [.d x, .d (.int lo), .d (.int hi)] := m_whole_eq x lo hi P E
/-- the law's own fault -/
theorem faultL_filter (top : Int) : ∀ (xs : List PD) (k : Nat) (p : PD → Bool), (∀ (j : Nat) x, xs[j]? = some x → p (.int ((k + j : Nat) : Int)) = !wholeD x 0 top) → faultL top k xs = (((List.range' k xs.length).map fun j : Nat => PyData.int (j : Int)).filter p).headD .none
  | [], k, p, _ => by simp [faultL]
  | x :: r, k, p, h => by
    have h0 := h 0 x rfl
    have ih := faultL_filter top r (k + 1) p fun j y hy => by
      have := h (j + 1) y (by simpa using hy)
      rw [show k + 1 + j = k + (j + 1) by omega]
      exact this
    rw [List.length_cons, List.range'_succ, List.map_cons]
    unfold faultL
    by_cases hw : wholeD x 0 top = true
    · rw [if_pos hw, ih]
      have : p (.int (k : Int)) = false := by simpa [hw] using h0
      rw [List.filter_cons_of_neg (by simp [this])]
    · rw [if_neg hw]
      have : p (.int (k : Int)) = true := by simpa [hw] using h0
      rw [List.filter_cons_of_pos this]
      rfl
theorem m_fault_eq (i : Nat) (hi : i ≤ 1000) (x : PD) (top : Int) (P E) : m__law_rw_fault [.d (.int (i : Int)), .d x, .d (.int top)] P E = P (.d (faultD (i : Int) x top)) [.d (.int (i : Int)), .d x, .d (.int top)] := by
  by_cases ht : ∃ xs, x = .tuple xs
  · obtain ⟨xs, rfl⟩ := ht
    by_cases h : xs.length = i
    · have h3 : (i : Int) ≤ 16777216 := by omega
      have h4 : -(2 ^ 62) ≤ (i : Int) := by omega
      simp [m__law_rw_fault, t__law_rw_fault, faultD, h, h3, h4]
      let p : PD → Bool := fun s => match xs[natD s]? with
        | some y => !wholeD y 0 top
        | none => false
      have hf : faultL top 0 xs = ((rngD 0 i).filter p).headD .none := by
        rw [faultL_filter top xs 0 p fun j y hy => by simp [p, hy]]
        simp [rngD, h, List.range_eq_range']
      rw [lcL_nm _ p id _ _ _ (fun y => rfl)]
      · rw [hf]
        cases e : (rngD 0 i).filter p <;> simp [e]
      · intro z hz P
        obtain ⟨k, hk, rfl⟩ := rng_mem hz
        have hk2 : k < xs.length := by omega
        simp [p, DL.atI_nat, hk2, m_is_eq]
      · intro z hz _ P
        simp
    · have h2 : ¬ (xs.length : Int) = i := by omega
      simp [m__law_rw_fault, t__law_rw_fault, faultD, h2, h]
  · cases x with
    | tuple xs => exact (ht ⟨_, rfl⟩).elim
    | _ => simp [m__law_rw_fault, t__law_rw_fault, faultD]
end LW

set_option Elab.async false
set_option linter.all false
set_option maxRecDepth 100000
set_option maxHeartbeats 400000
set_option exponentiation.threshold 2000
namespace LW
open PySem PySem.Spec PyProof.Rows L2 DL
theorem filt_f {l : List PD} : l.filter (fun _ => false) = [] := List.filter_eq_nil_iff.mpr (by simp)
/-- the same data is the same -/
theorem same_refl (n : Nat) : ∀ (x : PD) (P : Res → SS → Prop) (E : Exn → SS → Prop), okD n x = true → m__law_fb_same n [.d x, .d x] P E = P (.d (.bool true)) [.d x, .d x] := by
  induction n with
  | zero =>
    intro x P E h
    simp [okD] at h
  | succ n ih =>
    intro x P E h
    cases x with
    | none => simp [m__law_fb_same]
    | bool b => cases b <;> simp [m__law_fb_same]
    | int i => simp [m__law_fb_same]
    | str s => simp [m__law_fb_same]
    | dict k => simp [okD] at h
    | list xs =>
      simp [okD] at h
      obtain ⟨h1, h2⟩ := h
      have h3 : (xs.length : Int) ≤ 16777216 := by omega
      have h4 : -(2 ^ 62) ≤ (xs.length : Int) := by omega
      simp [m__law_fb_same, h3, h4]
      rw [lcL_nm _ (fun _ => false) id _ _ _ (fun y => rfl)]
      · simp [filt_f]
      · intro z hz P
        obtain ⟨k, hk, rfl⟩ := rng_mem hz
        simp [DL.atI_nat, hk, ih _ _ _ (h2 _ (List.getElem_mem hk))]
      · intro z hz hh P
        cases hh
    | tuple xs =>
      simp [okD] at h
      obtain ⟨h1, h2⟩ := h
      have h3 : (xs.length : Int) ≤ 16777216 := by omega
      have h4 : -(2 ^ 62) ≤ (xs.length : Int) := by omega
      simp [m__law_fb_same, h3, h4]
      rw [lcL_nm _ (fun _ => false) id _ _ _ (fun y => rfl)]
      · simp [filt_f]
      · intro z hz P
        obtain ⟨k, hk, rfl⟩ := rng_mem hz
        simp [DL.atI_nat, hk, ih _ _ _ (h2 _ (List.getElem_mem hk))]
      · intro z hz hh P
        cases hh
theorem same_eq {n : Nat} {x y : PD} {P E} (e : x = y) (h : okD n y = true) : m__law_fb_same n [.d x, .d y] P E = P (.d (.bool true)) [.d x, .d y] := by
  subst e
  exact same_refl n x P E h
end LW

set_option Elab.async false
set_option linter.all false
set_option maxRecDepth 100000
set_option maxHeartbeats 400000
set_option exponentiation.threshold 2000
namespace LW
open PySem PySem.Spec PyProof.Rows L2 DL
/-- the errors, as they are told -/
theorem res_many (w : PD) (k : PD → Prop) : hRes errs ts__law_rw_heard 5 1 ⟨"BadMany", w⟩ k = k (.tuple [.str "BadMany", w]) := by
  have h1 : ("BadMany" : Str) ∈ errs := by decide +kernel
  have i1 : isE "BadMany" "BadLimits" = false := by decide +kernel
  have i2 : isE "BadMany" "BadMany" = true := by decide +kernel
  have i3 : isE "BadMany" "BadRow" = false := by decide +kernel
  have j1 : Txt.join " " [("BadMany" : Str)] = "BadMany" := by decide +kernel
  have j2 : PyData.strOk ("BadMany" : Str) = true := by decide +kernel
  have j3 : ("BadMany" : Str).length ≤ sizeLine := by decide +kernel
  have j4 : ("BadMany" : Str).length + (" " : Str).length ≤ 16777216 := by decide +kernel
  have j5 : 2 ≤ sizeLine ∧ 0 < sizeLine ∧ 1 < sizeLine ∧ 2 < sizeLine := by decide
  have j6 : strsD [PyData.str ("BadMany" : Str)] = some [("BadMany" : Str)] := rfl
  simp [hRes, h1, ts__law_rw_heard, i1, i2, i3, oLcL, fastEnd, j1, j2, j3, j4, j5, j6]
theorem res_row (w : PD) (k : PD → Prop) : hRes errs ts__law_rw_heard 5 1 ⟨"BadRow", w⟩ k = k (.tuple [.str "BadRow", w]) := by
  have h1 : ("BadRow" : Str) ∈ errs := by decide +kernel
  have i1 : isE "BadRow" "BadLimits" = false := by decide +kernel
  have i2 : isE "BadRow" "BadMany" = false := by decide +kernel
  have i3 : isE "BadRow" "BadRow" = true := by decide +kernel
  have j1 : Txt.join " " [("BadRow" : Str)] = "BadRow" := by decide +kernel
  have j2 : PyData.strOk ("BadRow" : Str) = true := by decide +kernel
  have j3 : ("BadRow" : Str).length ≤ sizeLine := by decide +kernel
  have j4 : ("BadRow" : Str).length + (" " : Str).length ≤ 16777216 := by decide +kernel
  have j5 : 2 ≤ sizeLine ∧ 0 < sizeLine ∧ 1 < sizeLine ∧ 2 < sizeLine := by decide
  have j6 : strsD [PyData.str ("BadRow" : Str)] = some [("BadRow" : Str)] := rfl
  simp [hRes, h1, ts__law_rw_heard, i1, i2, i3, oLcL, fastEnd, j1, j2, j3, j4, j5, j6]
theorem res_lim (w : PD) (k : PD → Prop) : hRes errs ts__law_rw_heard 5 1 ⟨"BadLimits", w⟩ k = k (.tuple [.str "BadLimits", w]) := by
  have h1 : ("BadLimits" : Str) ∈ errs := by decide +kernel
  have i1 : isE "BadLimits" "BadLimits" = true := by decide +kernel
  have i2 : isE "BadLimits" "BadMany" = false := by decide +kernel
  have i3 : isE "BadLimits" "BadRow" = false := by decide +kernel
  have j1 : Txt.join " " [("BadLimits" : Str)] = "BadLimits" := by decide +kernel
  have j2 : PyData.strOk ("BadLimits" : Str) = true := by decide +kernel
  have j3 : ("BadLimits" : Str).length ≤ sizeLine := by decide +kernel
  have j4 : ("BadLimits" : Str).length + (" " : Str).length ≤ 16777216 := by decide +kernel
  have j5 : 2 ≤ sizeLine ∧ 0 < sizeLine ∧ 1 < sizeLine ∧ 2 < sizeLine := by decide
  have j6 : strsD [PyData.str ("BadLimits" : Str)] = some [("BadLimits" : Str)] := rfl
  simp [hRes, h1, ts__law_rw_heard, i1, i2, i3, oLcL, fastEnd, j1, j2, j3, j4, j5, j6]
end LW

set_option Elab.async false
set_option linter.all false
set_option maxRecDepth 100000
set_option maxHeartbeats 4000000
set_option exponentiation.threshold 2000
namespace LW
open PySem PySem.Spec PyProof.Rows L2 DL
theorem sz : 1 ≤ sizeLine ∧ 2 ≤ sizeLine ∧ 3 ≤ sizeLine ∧ 4 ≤ sizeLine ∧ 0 < sizeLine ∧ 1 < sizeLine ∧ 2 < sizeLine ∧ 3 < sizeLine := by decide
theorem nat_whole {i : Nat} (h1 : 1 ≤ i) (h2 : i ≤ 16) : wholeD (.int (i : Int)) 1 16 = true := by
  simp [wholeD]
  omega
theorem forms_sp {i : Nat} (h1 : 1 ≤ i) (h2 : i ≤ 16) {x : PD} (hx : okD 8 x = true) {P E} (h : P (.d (.bool true)) [.d (.int (i : Int)), .d x]) : m__law_rw_forms_right [.d (.int (i : Int)), .d x] P E := by
  have hw := nat_whole h1 h2
  have hi : i ≤ 1000 := by omega
  have k0 : okD 9 x = true := okD_up hx
  have k1 : okD 10 x = true := okD_up k0
  rcases faultD_k i x big with e | ⟨j, e⟩ <;> rcases faultD_k i x 250 with e' | ⟨j', e'⟩ <;>
  · simp only [m__law_rw_forms_right, mOf, t__law_rw_forms_right]
    apply seq_i
    · intro K hK; simp [m_fault_eq i hi, m_big_eq, e, e']
      exact hK
    apply seq_i
    · intro K hK; simp [m_made_row_eq, o_row, o_asked, o_st_yes hw, e, e', res_row, sz]
      exact hK
    apply seq_i
    · intro K hK; simp [m_is_row_eq, o_is, o_st_yes hw, e, e', sz]
      exact hK
    apply seq_i
    · intro K hK; simp [m_made_limits_eq, o_lim, o_asked, o_st_yes hw, e, e', res_lim, sz]
      exact hK
    apply seq_i
    · intro K hK; simp [m_is_limits_eq, o_is, o_st_yes hw, e, e', sz]
      exact hK
    apply seq_i
    · intro K hK; simp [e, e', sz]
      exact hK
    apply seq_i
    · intro K hK; simp [e, e', sz]
      exact hK
    simp [sz]
    rw [same_eq rfl (by simp [okD, k0, k1])]
    simpa using h
end LW

set_option Elab.async false
set_option linter.all false
set_option maxRecDepth 100000
set_option maxHeartbeats 4000000
set_option exponentiation.threshold 2000
namespace LW
open PySem PySem.Spec PyProof.Rows L2 DL
theorem szl : sizeLine = 16777216 := rfl
theorem rows_yes {i : Nat} {a b : PD} (h1 : 1 ≤ i) (h2 : i ≤ 16) (ha : RowD i big a) (hb : RowD i big b) : o_rows (.int (i : Int)) a b = .ok .none := by
  simp [o_rows, row_yes ha h1 h2, row_yes hb h1 h2]
theorem times_yes {i : Nat} {a : PD} {j : Int} (h1 : 1 ≤ i) (h2 : i ≤ 16) (ha : RowD i big a) (hj : 0 ≤ j) (hj2 : j ≤ 1000000) : o_times (.int (i : Int)) a (.int j) = .ok (.tuple ((rngD 0 i).map (f_times a j))) := by
  have hw : wholeD (.int j) 0 1000000 = true := by simp [wholeD, hj, hj2]
  simp [o_times, row_yes ha h1 h2, hw]
theorem rng_ok {i : Nat} (hi : i ≤ 16) (n : Nat) (f : PD → PD) (hf : ∀ x, ∃ z, f x = .int z) : okD (n + 2) (.tuple ((rngD 0 i).map f)) = true := by
  have : i ≤ 1000 := by omega
  simp [okD, rngD_len, this]
  intro x _
  obtain ⟨z, e⟩ := hf x
  rw [e]
  rfl
theorem gt_self (a : PD) (i : Nat) : (rngD 0 i).filter (f_gt a a) = [] := by
  rw [List.filter_eq_nil_iff]
  intro x _
  simp [f_gt]
theorem told_sp {i : Nat} (h1 : 1 ≤ i) (h2 : i ≤ 16) {a b : PD} (ha : RowD i big a) (hb : RowD i big b) {j : Int} (hj : 0 ≤ j) (hj2 : j ≤ 1000000) {P E} (h : P (.d (.bool true)) [.d (.int (i : Int)), .d a, .d b, .d (.int j)]) : m__law_rw_told_right [.d (.int (i : Int)), .d a, .d b, .d (.int j)] P E := by
  have rab := rows_yes h1 h2 ha hb
  have raa := rows_yes h1 h2 ha ha
  have rt := times_yes h1 h2 ha hj hj2
  have h3 : (i : Int) ≤ 16777216 := by omega
  have h4 : -(2 ^ 62) ≤ (i : Int) := by omega
  have k1 := rng_ok h2 8 (f_sum a b) fun x => ⟨_, rfl⟩
  have k2 := rng_ok h2 8 (f_top a b) fun x => ⟨_, rfl⟩
  have k3 := rng_ok h2 8 (f_times a j) fun x => ⟨_, rfl⟩
  obtain ⟨as, rfl, la, ba⟩ := ha
  obtain ⟨bs, rfl, lb, bb⟩ := hb
  simp only [m__law_rw_told_right, mOf, t__law_rw_told_right]
  apply seq_i
  · intro K hK
    simp [m_row_sum_eq, o_on, rab, szl]
    exact hK
  apply seq_i
  · intro K hK
    simp [m_row_top_eq, o_on, rab, szl]
    exact hK
  apply seq_i
  · intro K hK
    simp [m_row_times_eq, rt, szl]
    exact hK
  apply seq_i
  · intro K hK
    simp [m_row_below_eq, o_on, rab, szl]
    exact hK
  apply seq_i
  · intro K hK
    simp [m_row_below_eq, o_on, raa, szl, gt_self]
    exact hK
  apply seq_i
  · intro K hK
    simp [h3, h4, szl]
    rw [lcL_nm _ (fun _ => true) (f_sum (.tuple (as.map .int)) (.tuple (bs.map .int))) _ _ _ (fun y => rfl) (fun x hx P => by simp)]
    · simp [filt_t, h3, h4, szl]
      rw [lcL_nm _ (fun _ => true) (f_top (.tuple (as.map .int)) (.tuple (bs.map .int))) _ _ _ (fun y => rfl) (fun x hx P => by simp)]
      · simp [filt_t, szl]
        exact hK
      · intro x hx _ P
        obtain ⟨k, hk, rfl⟩ := rng_mem hx
        have ka : k < as.length := by omega
        have kb : k < bs.length := by omega
        simp [f_top, atD_map ka, atD_map kb, atI_ints ka, atI_ints kb]
    · intro x hx _ P
      obtain ⟨k, hk, rfl⟩ := rng_mem hx
      have ka : k < as.length := by omega
      have kb : k < bs.length := by omega
      simp [f_sum, atD_map ka, atD_map kb, atI_ints ka, atI_ints kb]
  apply seq_i
  · intro K hK
    simp [h3, h4, szl]
    rw [lcL_nm _ (fun _ => true) (f_times (.tuple (as.map .int)) j) _ _ _ (fun y => rfl) (fun x hx P => by simp)]
    · simp [filt_t, h3, h4, szl]
      rw [lcL_nm _ (f_gt (.tuple (as.map .int)) (.tuple (bs.map .int))) id _ _ _ (fun y => rfl)]
      · simp [szl]
        exact hK
      · intro x hx P
        obtain ⟨k, hk, rfl⟩ := rng_mem hx
        have ka : k < as.length := by omega
        have kb : k < bs.length := by omega
        simp [f_gt, atD_map ka, atD_map kb, atI_ints ka, atI_ints kb]
      · intro x hx _ P
        simp
    · intro x hx _ P
      obtain ⟨k, hk, rfl⟩ := rng_mem hx
      have ka : k < as.length := by omega
      have hb := ba _ (List.getElem_mem ka)
      have hz2 : (as[k]).natAbs < 2 ^ 2000 := by
        have : big < 2 ^ 2000 := by decide +kernel
        omega
      have m : CMulW as[k] j := cmw (a := 2000) (b := 20) hz2 (by omega) (by decide)
      simp [f_times, atD_map ka, atI_ints ka, m]
  simp
  rw [lcL_nm _ (fun _ => true) (fun x => .tuple [.str "told", x]) _ _ _ (fun y => rfl) (fun x hx P => by simp) (fun x hx _ P => by simp [szl])]
  simp [filt_t]
  rw [same_eq (by simp [gt_self]) (by simp [okD, rngD_len, show i ≤ 1000 by omega, f_sum, f_top, f_times])]
  simpa using h
end LW

set_option Elab.async false
set_option linter.all false
set_option maxRecDepth 100000
set_option maxHeartbeats 4000000
set_option exponentiation.threshold 2000
namespace LW
open PySem PySem.Spec PyProof.Rows L2 DL
theorem l_take {b : Nat} {xs : List PD} {n : Int} {P E} (hj : Jar (b + 1) xs) (hn : 0 < n) (hn2 : n < 2 ^ 64) (h : ∀ k ys, 0 ≤ k → k < n → Jar b ys → P (.d (.int k)) [.io (.lst ys), .d (.int n)]) : m__law_take [.io (.lst xs), .d (.int n)] P E := take_sp hj hn hn2 h
theorem l_one {b : Nat} {xs ds : List PD} {P : Res → SS → Prop} {E : Exn → SS → Prop} (hj : Jar (b + 1) xs) (hn : 0 < ds.length) (hn2 : ds.length < 2 ^ 64) (h : ∀ x ∈ ds, ∀ ys, Jar b ys → P (.d x) [.io (.lst ys), .d (.list ds)]) : m__law_one [.io (.lst xs), .d (.list ds)] P E := one_sp hj hn hn2 h
theorem p20 : CPow 10 20 := by decide
theorem p40 : CPow 10 40 := by decide
theorem p9 : CPow 10 9 := by decide
/-- what is bad in place of a row -/
def BadD (n : Nat) (x : PD) : Prop := ¬ RowD n big x ∧ okD 4 x = true
theorem BadD.fault {n : Nat} {x : PD} (h : BadD n x) : ∃ j : Int, faultD n x big = .int j := by
  rcases faultD_k n x big with e | e
  · exact absurd (fault_row e (by omega)) (by simpa using h.1)
  · exact e
theorem cut_len {xs : List PD} {lo hi : Option Int} : (DL.cutD xs lo hi).length ≤ xs.length := cutD_length xs lo hi
theorem cut_mem {xs : List PD} {lo hi : Option Int} {x : PD} (h : x ∈ DL.cutD xs lo hi) : x ∈ xs := by
  unfold DL.cutD at h
  exact List.mem_of_mem_drop (List.mem_of_mem_take h)
theorem bad_none {n : Nat} : BadD n .none := ⟨(fun ⟨_, e, _⟩ => nomatch e), (by decide)⟩
theorem bad_list {n : Nat} {xs : List PD} (h : okD 4 (.list xs) = true) : BadD n (.list xs) := ⟨(fun ⟨_, e, _⟩ => nomatch e), h⟩
theorem bad_len {n : Nat} {xs : List PD} (h : okD 4 (.tuple xs) = true) (hl : xs.length ≠ n) : BadD n (.tuple xs) := ⟨RowD.notLen hl, h⟩
theorem bad_mem {n : Nat} {xs : List PD} (h : okD 4 (.tuple xs) = true) {y : PD} (hm : y ∈ xs) (hy : ∀ z, y = .int z → 0 ≤ z → z ≤ big → False) : BadD n (.tuple xs) := ⟨RowD.notMem hm hy, h⟩
theorem ok_ints {as : List Int} {m : Nat} {x : PD} (h : x ∈ as.map PyData.int) : okD (m + 1) x = true := by
  obtain ⟨z, _, rfl⟩ := List.mem_map.mp h
  rfl
def Out4 (i : Nat) (t : Nat) (a b : PD) (c : List SC) (Γ : SS) : Prop := ∃ ys, Jar t ys ∧ Γ = [.io (.lst ys), .d (.int (i : Int)), .d a, .d b] ++ c
end LW

set_option Elab.async false
set_option linter.all false
set_option maxRecDepth 100000
set_option maxHeartbeats 4000000
set_option exponentiation.threshold 2000
namespace LW
open PySem PySem.Spec PyProof.Rows L2 DL
theorem ok_tup {xs : List PD} (h : xs.length ≤ 1000) (h2 : ∀ x ∈ xs, okD 3 x = true) : okD 4 (.tuple xs) = true := by
  simp [okD, h]
  exact h2
theorem ok_snoc {xs : List PD} {y : PD} (h : xs.length ≤ 16) (h2 : ∀ x ∈ xs, okD 3 x = true) (hy : okD 3 y = true) : okD 4 (.tuple (xs ++ [y])) = true := ok_tup (by simp; omega) fun x hx => by
  rcases List.mem_append.mp hx with h | h
  · exact h2 x h
  · cases List.mem_singleton.mp h
    exact hy
theorem ok_cons {xs : List PD} {y : PD} (h : xs.length ≤ 16) (h2 : ∀ x ∈ xs, okD 3 x = true) (hy : okD 3 y = true) : okD 4 (.tuple (y :: xs)) = true := ok_tup (by simp; omega) fun x hx => by
  rcases List.mem_cons.mp hx with h | h
  · cases h
    exact hy
  · exact h2 x h
/-- the lists that are drawn from -/
theorem few_bad {i : Nat} (h1 : 1 ≤ i) (h2 : i ≤ 16) {as : List Int} (la : as.length = i) : ∀ x ∈ [PyData.none, .list (as.map .int), .tuple (as.map .int ++ [.int 0]), .tuple (.int (-1) :: DL.cutD (as.map .int) (some 1) none), .tuple (DL.cutD (as.map .int) none (some (-1)) ++ [.bool true]), .tuple (DL.cutD (as.map .int) none (some (-1)) ++ [.int (big + 1)]), .tuple []], BadD i x := by
  have c1 : ∀ lo hi, (DL.cutD (as.map PyData.int) lo hi).length ≤ 16 := fun lo hi => by
    have := cut_len (xs := as.map PyData.int) (lo := lo) (hi := hi)
    simp at this
    omega
  have c2 : ∀ lo hi x m, x ∈ DL.cutD (as.map PyData.int) lo hi → okD (m + 1) x = true := fun lo hi x m h => ok_ints (cut_mem h)
  have b0 : ∀ z, PyData.bool true = .int z → 0 ≤ z → z ≤ big → False := fun z e => by cases e
  have b1 : ∀ z, PyData.int (-1) = .int z → 0 ≤ z → z ≤ big → False := fun z e h => by cases e; omega
  have b2 : ∀ z, PyData.int (big + 1) = .int z → 0 ≤ z → z ≤ big → False := fun z e h h' => by cases e; omega
  intro x hx
  simp only [List.mem_cons, List.mem_nil_iff, or_false] at hx
  have l1 := c1 (some 1) none
  have l2 := c1 none (some (-1))
  have q1 := c2 (some 1) none
  have q2 := c2 none (some (-1))
  rcases hx with rfl | rfl | rfl | rfl | rfl | rfl | rfl
  · exact bad_none
  · refine bad_list ?_
    simp [okD]
    omega
  · exact bad_len (ok_snoc (by simp; omega) (fun x h => ok_ints h) rfl) (by simp; omega)
  · exact bad_mem (ok_cons l1 (fun x h => q1 x 2 h) rfl) (.head _) b1
  · exact bad_mem (ok_snoc l2 (fun x h => q2 x 2 h) rfl) (y := .bool true) (by simp) b0
  · exact bad_mem (ok_snoc l2 (fun x h => q2 x 2 h) rfl) (y := .int (big + 1)) (by simp) b2
  · exact bad_len (by decide) (by simp; omega)
theorem odd_bad {i : Nat} (h1 : 1 ≤ i) (h2 : i ≤ 16) {bs : List Int} (lb : bs.length = i) : ∀ x ∈ [PyData.none, .tuple (DL.cutD (bs.map .int) (some 1) none), .tuple (.str "0" :: DL.cutD (bs.map .int) (some 1) none), .tuple (DL.cutD (bs.map .int) none (some (-1)) ++ [.int (-5)]), .list [.int 0]], BadD i x := by
  have c1 : ∀ lo hi, (DL.cutD (bs.map PyData.int) lo hi).length ≤ 16 := fun lo hi => by
    have := cut_len (xs := bs.map PyData.int) (lo := lo) (hi := hi)
    simp at this
    omega
  have c2 : ∀ lo hi x m, x ∈ DL.cutD (bs.map PyData.int) lo hi → okD (m + 1) x = true := fun lo hi x m h => ok_ints (cut_mem h)
  have b0 : ∀ z, PyData.str "0" = .int z → 0 ≤ z → z ≤ big → False := fun z e => by cases e
  have b1 : ∀ z, PyData.int (-5) = .int z → 0 ≤ z → z ≤ big → False := fun z e h => by cases e; omega
  intro x hx
  simp only [List.mem_cons, List.mem_nil_iff, or_false] at hx
  have l1 := c1 (some 1) none
  have l2 := c1 none (some (-1))
  have q1 := c2 (some 1) none
  have q2 := c2 none (some (-1))
  rcases hx with rfl | rfl | rfl | rfl | rfl
  · exact bad_none
  · refine bad_len (ok_tup (by omega) fun x h => q1 x 2 h) ?_
    have : (DL.cutD (bs.map PyData.int) (some 1) none).length = i - 1 := by
      simp [DL.cutD, HT.sIx, lb]
      try omega
    omega
  · exact bad_mem (ok_cons l1 (fun x h => q1 x 2 h) rfl) (.head _) b0
  · exact bad_mem (ok_snoc l2 (fun x h => q2 x 2 h) rfl) (y := .int (-5)) (by simp) b1
  · exact bad_list (by decide)
end LW

set_option Elab.async false
set_option linter.all false
set_option maxRecDepth 100000
set_option maxHeartbeats 4000000
set_option exponentiation.threshold 2000
namespace LW
open PySem PySem.Spec PyProof.Rows L2 DL
def R4 (i t : Nat) (a b : PD) (Q : List SC → Prop) (Γ : SS) : Prop := ∃ ys c, Jar t ys ∧ Q c ∧ Γ = .io (.lst ys) :: .d (.int (i : Int)) :: .d a :: .d b :: c
def u12 : List SC := List.replicate 12 .u
theorem row_len {i : Nat} {top : Int} {as : List Int} (h : RowD i top (.tuple (as.map .int))) : as.length = i := by
  obtain ⟨cs, e, hl, _⟩ := h
  have := congrArg List.length (PyData.tuple.inj e)
  simp at this
  omega
theorem o_row_many {m : PD} (hm : wholeD m 1 16 = false) (c : Str) (top : Int) (x : PD) : o_asked c top m x = .error ⟨"BadMany", m⟩ := o_st_no (by simp [hm])
theorem o_row_bad {i : Nat} (h1 : 1 ≤ i) (h2 : i ≤ 16) {x : PD} {j : Int} (h : faultD (i : Int) x big = .int j) : o_row (.int (i : Int)) x = .error ⟨"BadRow", .int j⟩ := by
  simp [o_row, o_asked, o_st_yes (nat_whole h1 h2), h]
theorem refused_sp {i t : Nat} (h1 : 1 ≤ i) (h2 : i ≤ 16) {as bs : List Int} {js : List PD} (hj : Jar (t + 5) js) (ha : RowD i big (.tuple (as.map .int))) (hb : RowD i big (.tuple (bs.map .int))) {P E} (h : ∀ ys, Jar t ys → P (.d (.bool true)) [.io (.lst ys), .d (.int (i : Int)), .d (.tuple (as.map .int)), .d (.tuple (bs.map .int))]) : m__law_rw_refused_right [.io (.lst js), .d (.int (i : Int)), .d (.tuple (as.map .int)), .d (.tuple (bs.map .int))] P E := by
  have la := row_len ha
  have lb := row_len hb
  have hi : i ≤ 1000 := by omega
  have cl1 := cut_len (xs := as.map PyData.int) (lo := some 1) (hi := none)
  have cl2 := cut_len (xs := as.map PyData.int) (lo := none) (hi := some (-1))
  have cl3 := cut_len (xs := bs.map PyData.int) (lo := some 1) (hi := none)
  have cl4 := cut_len (xs := bs.map PyData.int) (lo := none) (hi := some (-1))
  simp at cl1 cl2 cl3 cl4
  simp only [m__law_rw_refused_right, mOf, t__law_rw_refused_right]
  apply seq_p (fun Γ => ∃ m ys, Jar (t + 4) ys ∧ (wholeD m 1 16 = false ∧ okD 3 m = true) ∧ Γ = [.io (.lst ys), .d (.int (i : Int)), .d (.tuple (as.map .int)), .d (.tuple (bs.map .int)), .d m, .u, .u, .u, .u, .u, .u, .u, .u, .u, .u, .u])
  · intro K hK
    simp [szl, p20]
    refine l_one hj (by simp) (by simp) fun x hx ys hy => ?_
    simp
    refine hK _ ⟨x, ys, hy, ?_, rfl⟩
    simp at hx
    rcases hx with rfl | rfl | rfl | rfl | rfl | rfl | rfl | rfl <;> exact ⟨by decide, by decide⟩
  rintro _ ⟨m, ys, hy, ⟨hm, km⟩, rfl⟩
  apply seq_i
  · intro K hK
    simp [szl, m_big_eq]
    exact ⟨by omega, by omega, by omega, hK⟩
  have hfb := few_bad h1 h2 la
  have hob := odd_bad h1 h2 lb
  generalize hF : [PyData.none, PyData.list (as.map .int), PyData.tuple (as.map .int ++ [.int 0]), PyData.tuple (.int (-1) :: DL.cutD (as.map .int) (some 1) none), PyData.tuple (DL.cutD (as.map .int) none (some (-1)) ++ [.bool true]), PyData.tuple (DL.cutD (as.map .int) none (some (-1)) ++ [.int (big + 1)]), PyData.tuple []] = few at hfb
  have lF : few.length = 7 := by rw [← hF]; rfl
  apply seq_p (fun Γ => ∃ x o ys, Jar (t + 2) ys ∧ (BadD i x ∧ BadD i o) ∧ Γ = [.io (.lst ys), .d (.int (i : Int)), .d (.tuple (as.map .int)), .d (.tuple (bs.map .int)), .d m, .d (.list few), .d x, .d o, .u, .u, .u, .u, .u, .u, .u, .u])
  · intro K hK
    simp [szl]
    refine l_one hy (by omega) (by omega) fun x hx ys1 hy1 => ?_
    simp
    refine ⟨by omega, by omega, l_one hy1 (by simp) (by simp) fun o ho ys2 hy2 => ?_⟩
    simp
    exact hK _ ⟨x, o, ys2, hy2, ⟨hfb x hx, hob o ho⟩, rfl⟩
  rintro _ ⟨x, o, ys2, hy2, ⟨hx, ho⟩, rfl⟩
  apply seq_p (fun Γ => ∃ f ys, Jar (t + 1) ys ∧ (wholeD f 0 1000000 = false ∧ okD 3 f = true) ∧ Γ = [.io (.lst ys), .d (.int (i : Int)), .d (.tuple (as.map .int)), .d (.tuple (bs.map .int)), .d m, .d (.list few), .d x, .d o, .d f, .u, .u, .u, .u, .u, .u, .u])
  · intro K hK
    simp [szl, p20]
    refine l_one hy2 (by simp) (by simp) fun f hf ys hy => ?_
    simp
    refine hK _ ⟨f, ys, hy, ?_, rfl⟩
    simp at hf
    rcases hf with rfl | rfl | rfl | rfl | rfl | rfl | rfl <;> exact ⟨by decide, by decide⟩
  rintro _ ⟨f, ys3, hy3, ⟨hf, kf⟩, rfl⟩
  apply seq_p (fun Γ => ∃ v ys, Jar t ys ∧ (wholeD v 0 250 = false ∧ okD 3 v = true) ∧ Γ = [.io (.lst ys), .d (.int (i : Int)), .d (.tuple (as.map .int)), .d (.tuple (bs.map .int)), .d m, .d (.list few), .d x, .d o, .d f, .d v, .u, .u, .u, .u, .u, .u])
  · intro K hK
    simp [szl]
    refine l_one hy3 (by simp) (by simp) fun f hf ys hy => ?_
    simp
    refine hK _ ⟨f, ys, hy, ?_, rfl⟩
    simp at hf
    rcases hf with rfl | rfl | rfl | rfl | rfl | rfl <;> exact ⟨by decide, by decide⟩
  rintro _ ⟨v, ys4, hy4, ⟨hv, kv⟩, rfl⟩
  obtain ⟨jx, ex⟩ := hx.fault
  obtain ⟨jo, eo⟩ := ho.fault
  have mr : ∀ y, o_row m y = .error ⟨"BadMany", m⟩ := fun y => o_row_many hm _ _ y
  have ml : ∀ y, o_lim m y = .error ⟨"BadMany", m⟩ := fun y => o_row_many hm _ _ y
  have ms : ∀ g, o_st m g = .error ⟨"BadMany", m⟩ := fun g => o_st_no (by simp [hm])
  have rx := o_row_bad h1 h2 ex
  have ro := o_row_bad h1 h2 eo
  have ra := row_yes ha h1 h2
  have hw := nat_whole h1 h2
  apply seq_i
  · intro K hK
    simp [szl, m_made_row_eq, mr, res_many]
    exact hK
  apply seq_i
  · intro K hK
    simp [szl, m_is_row_eq, o_is, ms, res_many]
    exact hK
  apply seq_i
  · intro K hK
    simp [szl, m_made_limits_eq, ml, res_many]
    exact hK
  apply seq_i
  · intro K hK
    simp [szl, m_is_limits_eq, o_is, ms, res_many]
    exact hK
  apply seq_i
  · intro K hK
    simp [szl, m_even_eq, o_even, ms, res_many]
    exact hK
  apply seq_i
  · intro K hK
    simp [szl, m_row_sum_eq, o_on, o_rows, mr, res_many]
    exact hK
  apply seq_i
  · intro K hK
    simp [szl, m_row_top_eq, o_on, o_rows, mr, res_many]
    exact hK
  apply seq_i
  · intro K hK
    simp [szl, m_row_times_eq, o_times, mr, res_many]
    exact hK
  apply seq_i
  · intro K hK
    simp [szl, m_row_below_eq, o_on, o_rows, mr, res_many]
    exact hK
  apply seq_i
  · intro K hK
    simp [szl, m_big_eq, repD]
    exact hK
  apply seq_i
  · intro K hK
    apply for_i
    · intro K1 hK1
      simp [szl]
      exact hK1
    apply for_cons
    · intro K1 hK1 _ _ _
      simp only [gTp, gCo, gNm, gNi]
      refine ⟨rfl, ?_⟩
      apply seq_i
      · intro K hK
        simp [szl, m_row_sum_eq, o_on, o_rows, rx, res_row]
        exact hK
      apply seq_i
      · intro K hK
        simp [szl, m_row_top_eq, o_on, o_rows, rx, res_row]
        exact hK
      apply seq_i
      · intro K hK
        simp [szl, m_row_below_eq, o_on, o_rows, rx, res_row]
        exact hK
      simp [szl, m_fault_eq i hi, ex, repD]
      exact hK1
    apply for_cons
    · intro K1 hK1 _ _ _
      simp only [gTp, gCo, gNm, gNi]
      refine ⟨rfl, ?_⟩
      apply seq_i
      · intro K hK
        simp [szl, m_row_sum_eq, o_on, o_rows, ra, ro, res_row]
        exact hK
      apply seq_i
      · intro K hK
        simp [szl, m_row_top_eq, o_on, o_rows, ra, ro, res_row]
        exact hK
      apply seq_i
      · intro K hK
        simp [szl, m_row_below_eq, o_on, o_rows, ra, ro, res_row]
        exact hK
      simp [szl, m_fault_eq i hi, eo, repD]
      exact hK1
    exact hK
  apply seq_i
  · intro K hK
    simp [szl, m_row_times_eq, o_times, rx, res_row]
    exact hK
  apply seq_i
  · intro K hK
    have : o_times (.int (i : Int)) (.tuple (as.map .int)) f = .error ⟨"BadMany", f⟩ := by
      simp only [o_times, ra, oThen]
      split
      · rw [if_neg (by simp [hf])]
      · rfl
    simp [szl, m_row_times_eq, this, res_many]
    exact hK
  apply seq_i
  · intro K hK
    simp [szl, m_even_eq, o_even, o_st_yes hw, hv, res_many]
    exact hK
  simp [szl, m_fault_eq i hi, ex]
  have m10 : okD 10 m = true := okD_le km (by decide)
  have f10 : okD 10 f = true := okD_le kf (by decide)
  have v10 : okD 10 v = true := okD_le kv (by decide)
  rw [same_eq rfl (by simp [okD, m10, f10, v10])]
  simpa using h _ hy4
end LW

set_option Elab.async false
set_option linter.all false
set_option maxRecDepth 100000
set_option maxHeartbeats 400000
set_option exponentiation.threshold 2000
namespace LW
open PySem PySem.Spec PyProof.Rows L2 DL
def oneB : TD := dCall 2 m__law_one (daSo 0 (daD (dVar 4) daNil))
def few_ok (fl : List PD) : Prop := 0 < fl.length ∧ fl.length < 100 ∧ ∀ x ∈ fl, ∃ z : Int, x = .int z ∧ 0 ≤ z ∧ z ≤ big
theorem oneB_sp {t : Nat} {n a b s : SC} {fl ys : List PD} (hf : few_ok fl) (hj : Jar (t + 1) ys) {P : PD → SS → Prop} {E} (h : ∀ z ys, 0 ≤ z → z ≤ big → Jar t ys → P (.int z) [.io (.lst ys), n, a, b, .d (.list fl), s]) : oneB [.io (.lst ys), n, a, b, .d (.list fl), s] P E := by
  obtain ⟨f1, f2, f3⟩ := hf
  simp [oneB]
  refine l_one hj f1 (by omega) fun x hx zs hz => ?_
  obtain ⟨z, rfl, z1, z2⟩ := f3 x hx
  simp
  exact h z zs z1 z2 hz
theorem lcL_cons {i : Nat} {te : TD} {Γ0 Γ : SS} {x : PD} {r acc : List PD} {P : OC → SS → Prop} (h : te ((Γ.set i .u).set i (.d x)) (fun y Γ3 => oLcL (gNm i) dYes te [i] Γ0 r (acc ++ [y]) Γ3 P) no) : oLcL (gNm i) dYes te [i] Γ0 (x :: r) acc Γ P := h
theorem row_go {t : Nat} {n a b : SC} {fl : List PD} (hf : few_ok fl) {Γ0 : SS} (h0 : Γ0[5]? = some .u) {P : OC → SS → Prop} : ∀ (xs : List PD) (acc : List Int) (ys : List PD) (s : SC), Jar (t + xs.length) ys → (∀ z ∈ acc, 0 ≤ z ∧ z ≤ big) →
    (∀ (as : List Int) (ys : List PD), as.length = acc.length + xs.length → (∀ z ∈ as, 0 ≤ z ∧ z ≤ big) → Jar t ys → P (.lst (as.map .int)) [.io (.lst ys), n, a, b, .d (.list fl), .u]) → oLcL (gNm 5) dYes oneB [5] Γ0 xs (acc.map .int) [.io (.lst ys), n, a, b, .d (.list fl), s] P
  | [], acc, ys, s, hj, ha, h => by
    simp [oLcL, h0]
    exact h acc ys rfl ha hj
  | x :: r, acc, ys, s, hj, ha, h => by
    apply lcL_cons
    simp only [List.set]
    refine oneB_sp hf hj fun z zs z1 z2 hz => ?_
    have := row_go hf h0 r (acc ++ [z]) zs (.d x) hz (fun y hy => by
      rcases List.mem_append.mp hy with h | h
      · exact ha y h
      · cases List.mem_singleton.mp h
        exact ⟨z1, z2⟩) fun as ws hl hb hw => h as ws (by simp at hl ⊢; omega) hb hw
    simpa using this
theorem big_div : CDivW big 3 := ⟨by decide, by decide⟩
theorem row_sp {t i : Nat} (h2 : i ≤ 16) {js : List PD} (hj : Jar (t + 17) js) {P E} (h : ∀ (as : List Int) (ys : List PD), RowD i big (.tuple (as.map .int)) → Jar t ys → P (.d (.tuple (as.map .int))) [.io (.lst ys), .d (.int (i : Int))]) : m__law_rw_row [.io (.lst js), .d (.int (i : Int))] P E := by
  simp only [m__law_rw_row, mOf, t__law_rw_row]
  apply seq_i
  · intro K hK
    simp [m_big_eq]
    exact hK
  apply seq_i
  · intro K hK
    simp [szl, p40, p9, big_div]
    exact hK
  apply seq_p (fun Γ => ∃ fl a b ys, Jar (t + 16) ys ∧ few_ok fl ∧ Γ = [.io (.lst ys), .d (.int (i : Int)), a, b, .d (.list fl), .u])
  · intro K hK
    simp
    refine l_one hj (by simp) (by simp) fun x hx ys hy => ?_
    have hb : ∀ z : Int, 0 ≤ z → z ≤ 10 ^ 100 → 0 ≤ z ∧ z ≤ big := fun z h1 h2 => ⟨h1, Int.le_trans h2 (by decide +kernel)⟩
    simp at hx
    rcases hx with rfl | rfl | rfl | rfl | rfl
    · simp
      refine hK _ ⟨_, _, _, ys, hy, ⟨by simp, by simp, ?_⟩, rfl⟩
      intro x hx
      simp at hx
      rcases hx with rfl | rfl | rfl | rfl <;> exact ⟨_, rfl, by decide +kernel, by decide +kernel⟩
    · simp
      refine hK _ ⟨_, _, _, ys, hy, ⟨by simp, by simp, ?_⟩, rfl⟩
      intro x hx
      simp at hx
      rcases hx with rfl <;> exact ⟨_, rfl, by decide +kernel, by decide +kernel⟩
    · simp
      refine hK _ ⟨_, _, _, ys, hy, ⟨by simp, by simp, ?_⟩, rfl⟩
      intro x hx
      simp at hx
      rcases hx with rfl | rfl | rfl | rfl <;> exact ⟨_, rfl, by decide +kernel, by decide +kernel⟩
    · simp
      refine hK _ ⟨_, _, _, ys, hy, ⟨by simp, by simp, ?_⟩, rfl⟩
      intro x hx
      simp at hx
      rcases hx with rfl | rfl | rfl | rfl <;> exact ⟨_, rfl, by decide +kernel, by decide +kernel⟩
    · simp
      refine hK _ ⟨_, _, _, ys, hy, ⟨by simp, by simp, ?_⟩, rfl⟩
      intro x hx
      simp at hx
      rcases hx with rfl | rfl | rfl <;> exact ⟨_, rfl, by decide +kernel, by decide +kernel⟩
  rintro _ ⟨fl, a, b, ys, hy, hf, rfl⟩
  have h3 : (i : Int) ≤ 16777216 := by omega
  have h4 : -(2 ^ 62) ≤ (i : Int) := by omega
  have q := row_go (t := t) (n := .d (.int (i : Int))) (a := a) (b := b) hf (Γ0 := [.io (.lst ys), .d (.int (i : Int)), a, b, .d (.list fl), .u]) rfl (P := fun c Γ => match c with
    | .lst xs => P (.d (.tuple xs)) (Γ.take 2)
    | .dic _ => False) (rngD 0 i) [] ys .u (hy.le (by rw [rngD_len]; omega)) (by simp) (fun as zs hl hb hz => h as zs ⟨as, rfl, by simpa [rngD_len] using hl, hb⟩ hz)
  simp [h3, h4]
  exact q
end LW

set_option Elab.async false
set_option linter.all false
set_option maxRecDepth 100000
set_option maxHeartbeats 400000
set_option exponentiation.threshold 2000
namespace LW
open PySem PySem.Spec PyProof.Rows L2 DL
theorem odd_ok {x : PD} (h : x ∈ [PyData.none, .bool true, .bool false, .str "go", .str "foe", .int (-1), .int 0, .int 1, .int 13, .int 61, .int 251, .tuple [], .tuple [.int 0], .list [], .tuple [.str "go", .int 0]]) : okD 3 x = true := by
  simp only [List.mem_cons, List.mem_nil_iff, or_false] at h
  rcases h with rfl | rfl | rfl | rfl | rfl | rfl | rfl | rfl | rfl | rfl | rfl | rfl | rfl | rfl | rfl <;> decide
theorem bent_int {f t : Nat} {z : Int} {js : List PD} (hj : Jar (t + 2) js) {P E} (h : ∀ x ys, okD 4 x = true → Jar t ys → P (.d x) [.io (.lst ys), .d (.int z)]) : m__law_fb_bent (f + 1) [.io (.lst js), .d (.int z)] P E := by
  simp only [m__law_fb_bent, mOf]
  apply seq_i
  · intro K hK
    simp [szl]
    exact hK
  apply seq_p (fun Γ => ∃ w odd ys, Jar (t + 1) ys ∧ okD 3 odd = true ∧ Γ = [.io (.lst ys), .d (.int z), .d w, .d odd, .u, .u, .u])
  · intro K hK
    simp
    refine l_one hj (by simp) (by simp) fun x hx ys hy => ?_
    simp
    exact hK _ ⟨_, x, ys, hy, odd_ok hx, rfl⟩
  rintro _ ⟨w, odd, ys, hy, ho, rfl⟩
  by_cases hw : wholeD (.int z) (-1) 300 = true
  · simp [m_is_eq, hw, szl]
    refine l_one hy (by simp) (by simp) fun x hx zs hz => ?_
    simp
    refine h x zs ?_ hz
    simp only [List.mem_cons, List.mem_nil_iff, or_false] at hx
    rcases hx with rfl | rfl | rfl | rfl | rfl
    · rfl
    · rfl
    · exact okD_up ho
    · simp [okD]
    · rfl
  · simp [m_is_eq, hw, szl]
    exact h odd ys (okD_up ho) (hy.le (by omega))
end LW

set_option Elab.async false
set_option linter.all false
set_option maxRecDepth 100000
set_option maxHeartbeats 400000
set_option exponentiation.threshold 2000
namespace LW
open PySem PySem.Spec PyProof.Rows L2 DL
theorem ok_tup5 {xs : List PD} (h : xs.length ≤ 1000) (h2 : ∀ x ∈ xs, okD 4 x = true) : okD 5 (.tuple xs) = true := by
  simp [okD, h]
  exact h2
theorem bent_row {f t : Nat} {as : List Int} (hne : as ≠ []) (hl : as.length ≤ 16) {js : List PD} (hj : Jar (t + 5) js) {P E} (h : ∀ x ys, okD 5 x = true → Jar t ys → P (.d x) [.io (.lst ys), .d (.tuple (as.map .int))]) : m__law_fb_bent (f + 2) [.io (.lst js), .d (.tuple (as.map .int))] P E := by
  have hl0 : 0 < as.length := List.length_pos_iff.mpr hne
  have c1 : ∀ lo hi, (DL.cutD (as.map PyData.int) lo hi).length ≤ 16 := fun lo hi => by
    have := cut_len (xs := as.map PyData.int) (lo := lo) (hi := hi)
    simp at this
    omega
  have c2 : ∀ lo hi x m, x ∈ DL.cutD (as.map PyData.int) lo hi → okD (m + 1) x = true := fun lo hi x m h => ok_ints (cut_mem h)
  rw [m__law_fb_bent]
  simp only [mOf]
  apply seq_i
  · intro K hK
    simp [szl]
    exact hK
  apply seq_p (fun Γ => ∃ w odd ys, Jar (t + 4) ys ∧ okD 3 odd = true ∧ Γ = [.io (.lst ys), .d (.tuple (as.map .int)), .d w, .d odd, .u, .u, .u])
  · intro K hK
    simp
    refine l_one hj (by simp) (by simp) fun x hx ys hy => ?_
    simp
    exact hK _ ⟨_, x, ys, hy, odd_ok hx, rfl⟩
  rintro _ ⟨w, odd, ys, hy, ho, rfl⟩
  apply seq_i
  · intro K hK
    simp [szl, hne]
    exact hK
  apply seq_p (fun Γ => ∃ (at_ way : Int) (ys : List PD), Jar (t + 2) ys ∧ (0 ≤ at_ ∧ at_ < as.length ∧ 0 ≤ way ∧ way < 10) ∧ Γ = [.io (.lst ys), .d (.tuple (as.map .int)), .d w, .d odd, .d (.int at_), .d (.int way), .u])
  · intro K hK
    simp
    refine l_take hy (by omega) (by omega) fun k ys1 k1 k2 hy1 => ?_
    simp
    refine l_take hy1 (by omega) (by omega) fun v ys2 v1 v2 hy2 => ?_
    simp
    exact hK _ ⟨k, v, ys2, hy2, ⟨k1, k2, v1, v2⟩, rfl⟩
  rintro _ ⟨k, v, ys1, hy1, ⟨k1, k2, v1, v2⟩, rfl⟩
  obtain ⟨k, rfl⟩ := Int.eq_ofNat_of_zero_le k1
  have k3 : k < as.length := by omega
  by_cases hv : v < 6
  · simp [hv, atI_ints k3]
    refine bent_int hy1 fun y zs oy hz => ?_
    have l1 := c1 none (some (k : Int))
    have l2 := c1 (some ((k : Int) + 1)) none
    have q1 := c2 none (some (k : Int))
    have q2 := c2 (some ((k : Int) + 1)) none
    have hr := h (.tuple (DL.cutD (as.map .int) none (some (k : Int)) ++ y :: DL.cutD (as.map .int) (some ((k : Int) + 1)) none)) zs (ok_tup5 (by simp; omega) fun x hx => by
      rcases List.mem_append.mp hx with hx | hx
      · exact q1 x 3 hx
      · rcases List.mem_cons.mp hx with rfl | hx
        · exact oy
        · exact q2 x 3 hx) hz
    simp [szl]
    exact ⟨by omega, by omega, hr⟩
  · apply seq_i
    · intro K hK
      simp [hv]
      exact hK
    have l1 := c1 none (some (k : Int))
    have l2 := c1 (some ((k : Int) + 1)) none
    have l3 := c1 none (some ((k : Int) + 1))
    have l4 := c1 (some (k : Int)) none
    have q1 := c2 none (some (k : Int))
    have q2 := c2 (some ((k : Int) + 1)) none
    have q3 := c2 none (some ((k : Int) + 1))
    have q4 := c2 (some (k : Int)) none
    have hw : v = 6 ∨ v = 7 ∨ v = 8 ∨ v = 9 := by omega
    have app : ∀ xs ys : List PD, xs.length ≤ 16 → ys.length ≤ 16 → (∀ x ∈ xs, okD 4 x = true) → (∀ x ∈ ys, okD 4 x = true) → okD 5 (.tuple (xs ++ ys)) = true := fun xs ys a b c d => ok_tup5 (by simp; omega) fun x hx => by
      rcases List.mem_append.mp hx with hx | hx
      · exact c x hx
      · exact d x hx
    have z := hy1.le (show t ≤ t + 2 by omega)
    apply seq_i
    · intro K hK
      simp [szl]
      exact ⟨by omega, by omega, hK⟩
    rcases hw with rfl | rfl | rfl | rfl
    · simp
      exact h _ _ (app _ _ l1 l2 (fun x hx => q1 x 3 hx) (fun x hx => q2 x 3 hx)) z
    · simp
      exact h _ _ (app _ _ l3 l4 (fun x hx => q3 x 3 hx) (fun x hx => q4 x 3 hx)) z
    · simp
      refine h _ _ ?_ z
      simp [okD]
      omega
    · rw [show (9 : Int) = 9 from rfl]
      simp [DL.atI_pos]
      refine h _ _ ?_ z
      simp [okD]
      omega
end LW

set_option Elab.async false
set_option linter.all false
set_option maxRecDepth 100000
set_option maxHeartbeats 400000
set_option exponentiation.threshold 2000
namespace LW
open PySem PySem.Spec PyProof.Rows L2 DL
def thingB : TSd := (sSeq (sSet 5 (dCall 2 m__law_take (daSo 0 (daD (dL fLen (dCons (dVar 1) dNil)) daNil)))) (sExpr (dExt 3 (dFrz (dLst (dCons (d2 opAdd (d2 opAdd (dSl (dVar 1) dpN (dpS (dVar 5))) (dTup (dCons (dVar 4) dNil))) (dSl (dVar 1) (dpS (d2 opAdd (dVar 5) (dC (.int 1)))) dpN)) (dCons (d2 opAdd (d2 opAdd (d2 opAdd (dSl (dVar 1) dpN (dpS (dVar 5))) (dTup (dCons (dVar 4) dNil))) (dSl (dVar 1) (dpS (d2 opAdd (dVar 5) (dC (.int 1)))) (dpS (d1 opNeg (dC (.int 1)))))) (dTup (dCons (dC .none) dNil))) dNil)))))))
theorem app5 {xs ys : List PD} (a : xs.length ≤ 500) (b : ys.length ≤ 500) (c : ∀ x ∈ xs, okD 4 x = true) (d : ∀ x ∈ ys, okD 4 x = true) : okD 5 (.tuple (xs ++ ys)) = true := ok_tup5 (by simp; omega) fun x hx => by
  rcases List.mem_append.mp hx with hx | hx
  · exact c x hx
  · exact d x hx
theorem thingB_sp {t : Nat} {as : List Int} (hne : as ≠ []) (hl : as.length ≤ 16) {js xs : List PD} {b : SC} {o : PD} {s : SC} (ho : okD 4 o = true) (hx : ∀ x ∈ xs, okD 5 x = true) (hxl : xs.length ≤ 1000) (hj : Jar (t + 1) js) {D : EndsD} (h : ∀ ys zs s, Jar t ys → (∀ x ∈ zs, okD 5 x = true) → zs.length = xs.length + 2 → D.nx [.io (.lst ys), .d (.tuple (as.map .int)), b, .own (.lst zs), .d o, s]) : thingB D [.io (.lst js), .d (.tuple (as.map .int)), b, .own (.lst xs), .d o, s] := by
  have hl0 : 0 < as.length := List.length_pos_iff.mpr hne
  have c1 : ∀ lo hi, (DL.cutD (as.map PyData.int) lo hi).length ≤ 16 := fun lo hi => by
    have := cut_len (xs := as.map PyData.int) (lo := lo) (hi := hi)
    simp at this
    omega
  have c2 : ∀ lo hi x m, x ∈ DL.cutD (as.map PyData.int) lo hi → okD (m + 1) x = true := fun lo hi x m h => ok_ints (cut_mem h)
  simp only [thingB]
  apply seq_p (fun Γ => ∃ (k : Int) (ys : List PD), Jar t ys ∧ Γ = [.io (.lst ys), .d (.tuple (as.map .int)), b, .own (.lst xs), .d o, .d (.int k)])
  · intro K hK
    simp
    refine l_take hj (by omega) (by omega) fun k ys1 k1 k2 hy1 => ?_
    simp
    exact hK _ ⟨k, ys1, hy1, rfl⟩
  rintro _ ⟨k, ys, hy, rfl⟩
  have l1 := c1 none (some (k : Int))
  have l2 := c1 (some ((k : Int) + 1)) none
  have l3 := c1 (some ((k : Int) + 1)) (some (-1))
  have q1 := c2 none (some (k : Int))
  have q2 := c2 (some ((k : Int) + 1)) none
  have q3 := c2 (some ((k : Int) + 1)) (some (-1))
  have r := h ys (xs ++ [.tuple (DL.cutD (as.map .int) none (some k) ++ ([o] ++ DL.cutD (as.map .int) (some (k + 1)) none)), .tuple (DL.cutD (as.map .int) none (some k) ++ ([o] ++ (DL.cutD (as.map .int) (some (k + 1)) (some (-1)) ++ [.none])))]) (.d (.int k)) hy (fun x hxx => by
    rcases List.mem_append.mp hxx with hxx | hxx
    · exact hx x hxx
    · simp only [List.mem_cons, List.mem_nil_iff, or_false] at hxx
      rcases hxx with rfl | rfl
      · refine app5 (by omega) (by simp; omega) (fun x hx => q1 x 3 hx) fun x hx => ?_
        rcases List.mem_append.mp hx with hx | hx
        · cases List.mem_singleton.mp hx; exact ho
        · exact q2 x 3 hx
      · refine app5 (by omega) (by simp; omega) (fun x hx => q1 x 3 hx) fun x hx => ?_
        rcases List.mem_append.mp hx with hx | hx
        · cases List.mem_singleton.mp hx; exact ho
        · rcases List.mem_append.mp hx with hx | hx
          · exact q3 x 3 hx
          · cases List.mem_singleton.mp hx; rfl) (by simp)
  simp [szl]
  refine ⟨by omega, by omega, by omega, by omega, by omega, by omega, ?_⟩
  simpa using r
theorem thing_go {as : List Int} (hne : as ≠ []) (hl : as.length ≤ 16) {b : SC} {D : EndsD} {t : Nat} : ∀ (os : List PD) (n : Nat) (xs js : List PD) (o s : SC), (∀ o ∈ os, okD 4 o = true) → (∀ x ∈ xs, okD 5 x = true) → xs.length + 2 * os.length ≤ 1000 → Jar (t + os.length) js →
    (∀ ys zs o s, Jar t ys → (∀ x ∈ zs, okD 5 x = true) → zs.length = xs.length + 2 * os.length → D.nx [.io (.lst ys), .d (.tuple (as.map .int)), b, .own (.lst zs), o, s]) → sForL (gNm 4) thingB os D [.io (.lst js), .d (.tuple (as.map .int)), b, .own (.lst xs), o, s]
  | [], n, xs, js, o, s, ho, hx, hxl, hj, h => h js xs o s hj hx rfl
  | w :: r, n, xs, js, o, s, ho, hx, hxl, hj, h => by
    refine thingB_sp (t := t + r.length) hne hl (ho w (.head _)) hx (by simp at hxl; omega) hj fun ys zs s hy hz hzl => ?_
    refine thing_go hne hl r n zs ys _ _ (fun o h => ho o (.tail _ h)) hz (by simp at hxl; omega) hy fun ys zs2 o s a b c => h ys zs2 o s a b (by simp; omega)
end LW

set_option Elab.async false
set_option linter.all false
set_option maxRecDepth 100000
set_option maxHeartbeats 400000
set_option exponentiation.threshold 2000
namespace LW
open PySem PySem.Spec PyProof.Rows L2 DL
theorem things_sp {t : Nat} {as : List Int} (hne : as ≠ []) (hl : as.length ≤ 16) {js : List PD} (hj : Jar (t + 17) js) {P E} (h : ∀ xs ys, (∀ x ∈ xs, okD 5 x = true) → xs.length ≤ 100 → Jar t ys → P (.d (.list xs)) [.io (.lst ys), .d (.tuple (as.map .int))]) : m__law_rw_things [.io (.lst js), .d (.tuple (as.map .int))] P E := by
  have hl0 : 0 < as.length := List.length_pos_iff.mpr hne
  have l1 := cut_len (xs := as.map PyData.int) (lo := some 1) (hi := none)
  have q1 : ∀ x ∈ DL.cutD (as.map PyData.int) (some 1) none, ∃ z, x = PyData.int z := fun x hx => by
    obtain ⟨z, _, rfl⟩ := List.mem_map.mp (cut_mem hx)
    exact ⟨z, rfl⟩
  simp at l1
  have et : t__law_rw_things = (sSeq (sSet 2 (dCall0 m__law_fb_big)) (sSeq (sSetO 3 (dLst (dCons (dVar 1) (dCons (dL fLst (dCons (dVar 1) dNil)) (dCons (dC .none) (dCons (dC (.int 0)) (dCons (dC (.str "row")) (dCons (dTup (dCons (dVar 1) dNil)) (dCons (d2 opAdd (dVar 1) (dTup (dCons (dC (.int 0)) dNil))) (dCons (dSl (dVar 1) (dpS (dC (.int 1))) dpN) (dCons (dTup dNil) (dCons (d2 opAdd (dVar 1) (dVar 1)) (dCons (dC (.bool true)) dNil))))))))))))) (sSeq (sFor (iSq (dFrz (dLst (dCons (d1 opNeg (dC (.int 1))) (dCons (dVar 2) (dCons (d2 opAdd (dVar 2) (dC (.int 1))) (dCons (dC (.int 250)) (dCons (dC (.int 251)) (dCons (dC (.bool true)) (dCons (dC (.bool false)) (dCons (dC .none) (dCons (dC (.str "0")) (dCons (dTup (dCons (dC (.int 0)) dNil)) (dCons (dFrz (dLst (dCons (dC (.int 0)) dNil))) (dCons (dC (.int 0)) dNil))))))))))))))) (gNm 4) thingB) (sRet (d2 opAdd (dVar 3) (dFrz (dLst (dCons (dCall 2 (m__law_fb_bent 12) (daSo 0 (daD (dVar 1) daNil))) dNil)))))))) := rfl
  simp only [m__law_rw_things, mOf, et]
  apply seq_i
  · intro K hK
    simp [m_big_eq]
    exact hK
  apply seq_p (fun Γ => ∃ xs, (∀ x ∈ xs, okD 5 x = true) ∧ xs.length = 11 ∧ Γ = [.io (.lst js), .d (.tuple (as.map .int)), .d (.int big), .own (.lst xs), .u, .u])
  · intro K hK
    simp [szl]
    refine ⟨by omega, by omega, hK _ ⟨_, ?_, ?_, rfl⟩⟩
    · have oi : ∀ x ∈ as.map PyData.int, okD 4 x = true := fun x hx => ok_ints hx
      have oi2 : ∀ x ∈ as.map PyData.int, okD 3 x = true := fun x hx => ok_ints hx
      intro x hx
      simp only [List.mem_cons, List.mem_nil_iff, or_false] at hx
      rcases hx with rfl | rfl | rfl | rfl | rfl | rfl | rfl | rfl | rfl | rfl | rfl
      · exact ok_tup5 (by simp; omega) oi
      · simp [okD]; omega
      · rfl
      · rfl
      · rfl
      · simp [okD]; omega
      · refine app5 (by simp; omega) (by simp) oi fun x hx => ?_
        cases List.mem_singleton.mp hx; rfl
      · refine ok_tup5 (by omega) fun x hx => ?_
        obtain ⟨z, rfl⟩ := q1 x hx
        rfl
      · rfl
      · exact app5 (by simp; omega) (by simp; omega) oi oi
      · rfl
    · simp
  rintro _ ⟨xs, hx, hxl, rfl⟩
  apply seq_p (fun Γ => ∃ zs ys o s, Jar (t + 5) ys ∧ (∀ x ∈ zs, okD 5 x = true) ∧ zs.length = 35 ∧ Γ = [.io (.lst ys), .d (.tuple (as.map .int)), .d (.int big), .own (.lst zs), o, s])
  · intro K hK
    apply for_i
    · intro K1 hK1
      simp [szl]
      exact hK1
    refine thing_go (t := t + 5) hne hl _ 0 xs js _ _ ?_ hx (by simp; omega) hj fun ys zs o s a b c => hK _ ⟨zs, ys, o, s, a, b, by simp at c; omega, rfl⟩
    intro x hx
    simp only [List.mem_cons, List.mem_nil_iff, or_false] at hx
    rcases hx with rfl | rfl | rfl | rfl | rfl | rfl | rfl | rfl | rfl | rfl | rfl | rfl <;> first | rfl | decide
  rintro _ ⟨zs, ys, o, s, hy, hz, hzl, rfl⟩
  simp
  refine bent_row (f := 10) hne hl hy fun x ws ox hw => ?_
  simp [szl]
  refine ⟨by omega, ?_⟩
  refine h _ ws (fun y hy => ?_) (by simp; omega) hw
  rcases List.mem_append.mp hy with hy | hy
  · exact hz y hy
  · cases List.mem_singleton.mp hy; exact ox
end LW

set_option Elab.async false
set_option linter.all false
set_option maxRecDepth 100000
set_option maxHeartbeats 400000
set_option exponentiation.threshold 2000
namespace LW
open PySem PySem.Spec PyProof.Rows L2 DL
abbrev cl : PD := .tuple [.int 1, .int 2, .int 3]
abbrev rm : PD := .tuple [.int 3, .int 3, .int 3]
abbrev c31 : PD := .tuple [.int 3, .int 0, .int 1]
theorem a1 : o_on (.int 3) cl c31 (fun i => .tuple ((rngD 0 i).map (f_sum cl c31))) = .ok (.tuple [.int 4, .int 2, .int 4]) := by kernel_rfl
theorem a2 : o_on (.int 3) cl c31 (fun i => .tuple ((rngD 0 i).map (f_top cl c31))) = .ok (.tuple [.int 3, .int 2, .int 3]) := by kernel_rfl
theorem a3 : o_times (.int 3) cl (.int 10) = .ok (.tuple [.int 10, .int 20, .int 30]) := by kernel_rfl
theorem a4 : o_times (.int 3) cl (.int 0) = .ok (.tuple [.int 0, .int 0, .int 0]) := by kernel_rfl
theorem a5 : o_even (.int 3) (.int 3) = .ok rm := by kernel_rfl
theorem a6 : o_even (.int 1) (.int 0) = .ok (.tuple [.int 0]) := by kernel_rfl
theorem a7 : o_on (.int 3) cl rm (fun i => .bool ((rngD 0 i).filter (f_gt cl rm)).isEmpty) = .ok (.bool true) := by kernel_rfl
theorem a8 : o_on (.int 3) cl cl (fun i => .bool ((rngD 0 i).filter (f_gt cl cl)).isEmpty) = .ok (.bool true) := by kernel_rfl
theorem a9 : o_on (.int 3) rm cl (fun i => .bool ((rngD 0 i).filter (f_gt rm cl)).isEmpty) = .ok (.bool false) := by kernel_rfl
abbrev b1 : PD := .tuple [.int big]
theorem a10 : o_on (.int 1) b1 (.tuple [.int 1]) (fun i => .tuple ((rngD 0 i).map (f_sum b1 (.tuple [.int 1])))) = .ok (.tuple [.int (big + 1)]) := by kernel_rfl
abbrev b16 : PD := .tuple (repD 16 [.int big])
theorem a11 : o_times (.int 16) b16 (.int 1000000) = .ok (.tuple (repD 16 [.int (big * 1000000)])) := by kernel_rfl
theorem a12 : o_is big (.int 1) b1 = .ok (.bool true) := by kernel_rfl
theorem a13 : o_is big (.int 1) (.tuple [.int (big + 1)]) = .ok (.bool false) := by kernel_rfl
theorem a14 : o_is 250 (.int 1) (.tuple [.int 250]) = .ok (.bool true) := by kernel_rfl
theorem a15 : o_is 250 (.int 1) (.tuple [.int 251]) = .ok (.bool false) := by kernel_rfl
theorem a16 : o_even (.int 16) (.int 250) = .ok (.tuple (repD 16 [.int 250])) := by kernel_rfl
theorem a17 : o_row (.int 17) (.tuple []) = .error ⟨"BadMany", .int 17⟩ := by kernel_rfl
theorem a18 : o_lim (.int 2) (.tuple [.int 250, .int 251]) = .error ⟨"BadLimits", .int 1⟩ := by kernel_rfl
theorem a19 : o_row (.int 2) (.tuple [.int 1, .int (big + 1)]) = .error ⟨"BadRow", .int 1⟩ := by kernel_rfl
theorem mb : CMulW big 1000000 := by decide +kernel
theorem rep_mem {n : Int} {x y : PD} (h : x ∈ repD n [y]) : x = y := by
  unfold repD at h
  obtain ⟨l, hl, hx⟩ := List.mem_flatten.mp h
  rw [List.eq_of_mem_replicate hl] at hx
  exact List.mem_singleton.mp hx
theorem rep_ok {n : Int} {z : Int} {x : PD} {m : Nat} (h : x ∈ repD n [.int z]) : okD (m + 1) x = true := by
  rw [rep_mem h]
  rfl
theorem hand_sp {P E} (h : P (.d (.bool true)) []) : m__law_rw_hand_right [] P E := by
  simp only [m__law_rw_hand_right, mOf, t__law_rw_hand_right]
  apply seq_i
  · intro K hK
    simp [m_big_eq, szl]
    exact hK
  apply seq_i
  · intro K hK
    simp [m_row_sum_eq, m_row_top_eq, szl, a1, a2]
    exact hK
  apply seq_i
  · intro K hK
    simp [m_row_times_eq, m_even_eq, szl, a3, a4, a5, a6]
    exact hK
  apply seq_i
  · intro K hK
    simp [m_row_below_eq, szl, a7, a8]
    exact hK
  apply seq_i
  · intro K hK
    simp [m_row_below_eq, szl, a9]
    exact hK
  apply seq_i
  · intro K hK
    simp [m_row_sum_eq, m_row_times_eq, szl, a10, a11]
    exact hK
  apply seq_i
  · intro K hK
    simp [szl]
    exact hK
  apply seq_i
  · intro K hK
    simp [szl, mb]
    exact hK
  apply seq_i
  · intro K hK
    simp [m_is_row_eq, m_is_limits_eq, szl, a12, a13, a14]
    exact hK
  apply seq_i
  · intro K hK
    simp [m_is_limits_eq, m_even_eq, szl, a15, a16]
    exact hK
  apply seq_i
  · intro K hK
    simp [szl]
    exact hK
  apply seq_i
  · intro K hK
    simp [m_made_row_eq, szl, a17, res_many]
    exact hK
  apply seq_i
  · intro K hK
    simp [m_made_limits_eq, szl, a18, res_lim]
    exact hK
  apply seq_i
  · intro K hK
    simp [m_made_row_eq, szl, a19, res_row]
    exact hK
  simp [szl]
  rw [lcL_nm _ (fun _ => true) (fun x => .tuple [.str "told", x]) _ _ _ (fun y => rfl) (fun x hx P => by simp) (fun x hx _ P => by simp [szl])]
  simp [filt_t, szl]
  rw [same_eq rfl (by simp [okD, repD_len]; exact ⟨fun x hx => rep_ok hx, fun x hx => rep_ok hx⟩)]
  simpa using h
end LW

set_option Elab.async false
set_option linter.all false
set_option maxRecDepth 100000
set_option maxHeartbeats 400000
set_option exponentiation.threshold 2000
namespace LW
open PySem PySem.Spec PyProof.Rows L2 DL
theorem for_all {g : TGd} {B : TSd} {D : EndsD} (I : Nat → SS → Prop) : ∀ xs : List PD, (∀ x ∈ xs, ∀ n Γ, I (n + 1) Γ → ∀ K : EndsD, K.rt = D.rt → K.ex = D.ex → (∀ Γ', I n Γ' → K.nx Γ') → (∀ Γ', I n Γ' → K.ct Γ') → g x Γ fun Γ1 => B K Γ1) → (∀ Γ, I 0 Γ → D.nx Γ) → ∀ Γ, I xs.length Γ → sForL g B xs D Γ
  | [], _, h, Γ, hI => h Γ hI
  | x :: r, hb, h, Γ, hI => hb x (.head _) r.length Γ hI _ rfl rfl (fun Γ' h' => for_all I r (fun y hy => hb y (.tail _ hy)) h Γ' h') (fun Γ' h' => for_all I r (fun y hy => hb y (.tail _ hy)) h Γ' h')
def nearE : TD := (dL fMax (dCons (dC (.int 0)) (dCons (d2 opSub (dVar 10) (dCall 2 m__law_take (daSo 1 (daD (dC (.int 2)) daNil)))) dNil)))
theorem nearE_sp {t : Nat} {c0 c2 c3 c4 c5 c6 c7 c8 c9 : SC} {ys : List PD} {z : Int} (h1 : 0 ≤ z) (h2 : z ≤ big) (hj : Jar (t + 1) ys) {P : PD → SS → Prop} {E} (h : ∀ y ys, 0 ≤ y → y ≤ big → Jar t ys → P (.int y) [c0, .own (.lst ys), c2, c3, c4, c5, c6, c7, c8, c9, .d (.int z)]) : nearE [c0, .own (.lst ys), c2, c3, c4, c5, c6, c7, c8, c9, .d (.int z)] P E := by
  simp [nearE]
  refine l_take hj (by omega) (by omega) fun k zs k1 k2 hz => ?_
  simp
  refine h _ zs ?_ ?_ hz
  · split <;> omega
  · split
    · omega
    · exact Int.le_trans h1 h2
theorem near_go {t : Nat} {c0 c2 c3 c4 c5 c6 c7 c8 c9 : SC} {Γ0 : SS} (h0 : Γ0[10]? = some .u) {P : OC → SS → Prop} : ∀ (as : List Int) (acc : List Int) (ys : List PD) (s : SC), (∀ z ∈ as, 0 ≤ z ∧ z ≤ big) → Jar (t + as.length) ys → (∀ z ∈ acc, 0 ≤ z ∧ z ≤ big) →
    (∀ (bs : List Int) (ys : List PD), bs.length = acc.length + as.length → (∀ z ∈ bs, 0 ≤ z ∧ z ≤ big) → Jar t ys → P (.lst (bs.map .int)) [c0, .own (.lst ys), c2, c3, c4, c5, c6, c7, c8, c9, .u]) → oLcL (gNm 10) dYes nearE [10] Γ0 (as.map .int) (acc.map .int) [c0, .own (.lst ys), c2, c3, c4, c5, c6, c7, c8, c9, s] P
  | [], acc, ys, s, hb, hj, ha, h => by
    simp [oLcL, h0]
    exact h acc ys rfl ha hj
  | x :: r, acc, ys, s, hb, hj, ha, h => by
    rw [List.map_cons]
    apply lcL_cons
    simp only [List.set]
    refine nearE_sp (hb x (.head _)).1 (hb x (.head _)).2 hj fun z zs z1 z2 hz => ?_
    have := near_go h0 r (acc ++ [z]) zs (.d (.int x)) (fun y hy => hb y (.tail _ hy)) hz (fun y hy => by
      rcases List.mem_append.mp hy with h | h
      · exact ha y h
      · cases List.mem_singleton.mp h
        exact ⟨z1, z2⟩) fun bs ws hl hb hw => h bs ws (by simp at hl ⊢; omega) hb hw
    simpa using this
def modD : PD → PD
  | .int i => .int (i % 251)
  | _ => .none
theorem mod_map {bs : List Int} {Γ : SS} (hi : Γ[10]? = some .u) {P : OC → SS → Prop} : oLcL (gNm 10) dYes (d2 opMod (dL fInt (dCons (dVar 10) dNil)) (dC (.int 251))) [10] Γ (bs.map PyData.int) [] Γ P = P (.lst ((bs.map PyData.int).map modD)) Γ := by
  have hl : 10 < Γ.length := (List.getElem?_eq_some_iff.mp hi).1
  rw [lcL_nm Γ (fun _ => true) modD _ _ _ (fun y => rfl) (fun x hx P => by simp)]
  · rw [filt_t, hi]
    simp only [keepD, List.nil_append]
    rw [set_get hi]
  · intro x hx _ P
    obtain ⟨z, _, rfl⟩ := List.mem_map.mp hx
    simp [List.getElem?_set_self hl, modD]
end LW

set_option Elab.async false
set_option linter.all false
set_option maxRecDepth 100000
set_option maxHeartbeats 400000
set_option exponentiation.threshold 2000
namespace LW
open PySem PySem.Spec PyProof.Rows L2 DL
def formB : TSd := (sIf (dNot (dTru (dCall 2 m__law_rw_forms_right (daD (dVar 3) (daD (dVar 7) daNil))))) (sRet (dC (.bool false))) sNext)
def toldB : TSd := (sIf (dOr (dNot (dTru (dCall 4 m__law_rw_told_right (daD (dVar 3) (daD (dVar 4) (daD (dVar 9) (daD (dVar 8) daNil))))))) (dNot (dTru (dCall 4 m__law_rw_told_right (daD (dVar 3) (daD (dVar 9) (daD (dVar 4) (daD (dVar 8) daNil)))))))) (sRet (dC (.bool false))) sNext)
def goB : TSd := (sSeq (sSet 3 (dCall 2 m__law_one (daSo 1 (daD (dFrz (dLst (dCons (dC (.int 1)) (dCons (dC (.int 1)) (dCons (dC (.int 2)) (dCons (dC (.int 3)) (dCons (dC (.int 4)) (dCons (dC (.int 5)) (dCons (dC (.int 16)) dNil))))))))) daNil)))) (sSeq (sPar 4 5 (drD (dCall 2 m__law_rw_row (daSo 1 (daD (dVar 3) daNil))) (drD (dCall 2 m__law_rw_row (daSo 1 (daD (dVar 3) daNil))) drNil))) (sSeq (sSet 6 (dL fTup (dCons (dFrz (oLc (iSq (dVar 4)) (gNm 10) dYes nearE [10])) dNil))) (sSeq (sFor (iSq (d2 opAdd (dCall 2 m__law_rw_things (daSo 1 (daD (dVar 4) daNil))) (dFrz (dLst (dCons (dL fTup (dCons (dFrz (oLc (iSq (dVar 5)) (gNm 10) dYes (d2 opMod (dL fInt (dCons (dVar 10) dNil)) (dC (.int 251))) [10])) dNil)) dNil))))) (gNm 7) formB) (sSeq (sSet 8 (dCall 2 m__law_one (daSo 1 (daD (dFrz (dLst (dCons (dC (.int 0)) (dCons (dC (.int 1)) (dCons (dC (.int 2)) (dCons (dC (.int 999999)) (dCons (dC (.int 1000000)) (dCons (dCall 2 m__law_take (daSo 1 (daD (dC (.int 100)) daNil))) dNil)))))))) daNil)))) (sSeq (sFor (iSq (dFrz (dLst (dCons (dVar 5) (dCons (dVar 6) (dCons (dVar 4) dNil)))))) (gNm 9) toldB) (sSeq (sIf (dNot (dTru (dCall 4 m__law_rw_refused_right (daSo 1 (daD (dVar 3) (daD (dVar 4) (daD (dVar 5) daNil))))))) (sRet (dC (.bool false))) sNext) (sSeq (sSet 8 (dCall 2 m__law_take (daSo 1 (daD (dC (.int 251)) daNil)))) (sIf (dNot (dTru (dCall 2 (m__law_fb_same 12) (daD (dHeard errs ts__law_rw_heard 5 1 (dCall 2 m_even (daD (dVar 3) (daD (dVar 8) daNil)))) (daD (dTup (dCons (dC (.str "told")) (dCons (d2 opMul (dTup (dCons (dVar 8) dNil)) (dVar 3)) dNil))) daNil))))) (sRet (dC (.bool false))) sNext)))))))))
theorem law_eq (ad : Addr) (ns : List Int) : t_law ad ns = (sSeq (sSetO 1 (oCallP 0 ad (m__law_pool ad ns))) (sSeq (sFor (iR1 (dC (.int 6))) (gNm 2) goB) (sRet (dCall0 m__law_rw_hand_right)))) := rfl
theorem go_sp {t : Nat} {c0 c2 c3 c4 c5 c6 c7 c8 c9 : SC} {js : List PD} (hj : Jar (t + 100) js) {D : EndsD} (h : ∀ c2 c3 c4 c5 c6 c7 c8 c9 js, Jar t js → D.nx [c0, .own (.lst js), c2, c3, c4, c5, c6, c7, c8, c9, .u]) : goB D [c0, .own (.lst js), c2, c3, c4, c5, c6, c7, c8, c9, .u] := by
  simp only [goB]
  apply seq_p (fun Γ => ∃ (i : Nat) (ys : List PD), (1 ≤ i ∧ i ≤ 16) ∧ Jar (t + 99) ys ∧ Γ = [c0, .own (.lst ys), c2, .d (.int (i : Int)), c4, c5, c6, c7, c8, c9, .u])
  · intro K hK
    simp [szl]
    refine l_one hj (by simp) (by simp) fun x hx ys hy => ?_
    simp
    simp at hx
    rcases hx with rfl | rfl | rfl | rfl | rfl | rfl
    · exact hK _ ⟨1, ys, by decide, hy, rfl⟩
    · exact hK _ ⟨2, ys, by decide, hy, rfl⟩
    · exact hK _ ⟨3, ys, by decide, hy, rfl⟩
    · exact hK _ ⟨4, ys, by decide, hy, rfl⟩
    · exact hK _ ⟨5, ys, by decide, hy, rfl⟩
    · exact hK _ ⟨16, ys, by decide, hy, rfl⟩
  rintro _ ⟨i, ys, ⟨i1, i2⟩, hy, rfl⟩
  apply seq_p (fun Γ => ∃ (as bs : List Int) (ys : List PD), (RowD i big (.tuple (as.map .int)) ∧ RowD i big (.tuple (bs.map .int))) ∧ Jar (t + 65) ys ∧ Γ = [c0, .own (.lst ys), c2, .d (.int (i : Int)), .d (.tuple (as.map .int)), .d (.tuple (bs.map .int)), c6, c7, c8, c9, .u])
  · intro K hK
    simp
    refine row_sp (t := t + 82) i2 hy fun as ys1 ra hy1 => ?_
    simp
    refine row_sp (t := t + 65) i2 hy1 fun bs ys2 rb hy2 => ?_
    simp
    exact hK _ ⟨as, bs, ys2, ⟨ra, rb⟩, hy2, rfl⟩
  rintro _ ⟨as, bs, ys1, ⟨ra, rb⟩, hy1, rfl⟩
  have la := row_len ra
  have lb := row_len rb
  have ba : ∀ z ∈ as, 0 ≤ z ∧ z ≤ big := fun z hz => by
    obtain ⟨k, hk, rfl⟩ := List.getElem_of_mem hz
    have := ra.at (k := k) (by omega)
    rwa [atD_map hk] at this
  apply seq_p (fun Γ => ∃ (cs : List Int) (ys : List PD), RowD i big (.tuple (cs.map .int)) ∧ Jar (t + 49) ys ∧ Γ = [c0, .own (.lst ys), c2, .d (.int (i : Int)), .d (.tuple (as.map .int)), .d (.tuple (bs.map .int)), .d (.tuple (cs.map .int)), c7, c8, c9, .u])
  · intro K hK
    simp
    refine near_go (t := t + 49) (acc := []) rfl as ys1 .u ba (hy1.le (by omega)) (by simp) fun cs ws hl hb hw => ?_
    simp
    exact hK _ ⟨cs, ws, ⟨cs, rfl, by simp at hl; omega, hb⟩, hw, rfl⟩
  rintro _ ⟨cs, ys2, rc, hy2, rfl⟩
  have hne : as ≠ [] := fun e => by subst e; simp at la; omega
  apply seq_p (fun Γ => ∃ (c7 : SC) (ys : List PD), Jar (t + 32) ys ∧ Γ = [c0, .own (.lst ys), c2, .d (.int (i : Int)), .d (.tuple (as.map .int)), .d (.tuple (bs.map .int)), .d (.tuple (cs.map .int)), c7, c8, c9, .u])
  · intro K hK
    simp only [sFor]
    simp [-oLc]
    refine things_sp (t := t + 32) hne (by omega) hy2 fun xs ws hx hxl hw => ?_
    simp
    rw [mod_map (by rfl)]
    simp [szl]
    refine ⟨by omega, ?_⟩
    refine for_all (fun _ Γ => ∃ c7, Γ = [c0, .own (.lst ws), c2, .d (.int (i : Int)), .d (.tuple (as.map .int)), .d (.tuple (bs.map .int)), .d (.tuple (cs.map .int)), c7, c8, c9, .u]) _ ?_ ?_ _ ⟨_, rfl⟩
    · rintro x hxx n _ ⟨c7, rfl⟩ K2 hr he hn hc
      have ox : okD 8 x = true := by
        rcases List.mem_append.mp hxx with h | h
        · exact okD_le (hx x h) (by decide)
        · cases List.mem_singleton.mp h
          simp [okD]
          refine ⟨by omega, fun z _ => rfl⟩
      simp [formB]
      refine forms_sp i1 i2 ox ?_
      simp
      exact hn _ ⟨_, rfl⟩
    · rintro _ ⟨c7, rfl⟩
      exact hK _ ⟨c7, ws, hw, rfl⟩
  rintro _ ⟨c7', ys3, hy3, rfl⟩
  apply seq_p (fun Γ => ∃ (k : Int) (ys : List PD), (0 ≤ k ∧ k ≤ 1000000) ∧ Jar (t + 30) ys ∧ Γ = [c0, .own (.lst ys), c2, .d (.int (i : Int)), .d (.tuple (as.map .int)), .d (.tuple (bs.map .int)), .d (.tuple (cs.map .int)), c7', .d (.int k), c9, .u])
  · intro K hK
    simp
    refine l_take (b := t + 31) hy3 (by omega) (by omega) fun k ws k1 k2 hw => ?_
    simp [szl]
    refine l_one (b := t + 30) hw (by simp) (by simp) fun x hx zs hz => ?_
    simp
    simp at hx
    rcases hx with rfl | rfl | rfl | rfl | rfl | rfl <;> exact hK _ ⟨_, zs, by omega, hz, rfl⟩
  rintro _ ⟨k, ys4, ⟨k1, k2⟩, hy4, rfl⟩
  apply seq_p (fun Γ => ∃ (c9 : SC), Γ = [c0, .own (.lst ys4), c2, .d (.int (i : Int)), .d (.tuple (as.map .int)), .d (.tuple (bs.map .int)), .d (.tuple (cs.map .int)), c7', .d (.int k), c9, .u])
  · intro K hK
    apply for_i
    · intro K1 hK1
      simp [szl]
      exact hK1
    refine for_all (fun _ Γ => ∃ c9, Γ = [c0, .own (.lst ys4), c2, .d (.int (i : Int)), .d (.tuple (as.map .int)), .d (.tuple (bs.map .int)), .d (.tuple (cs.map .int)), c7', .d (.int k), c9, .u]) _ ?_ ?_ _ ⟨_, rfl⟩
    · rintro x hxx n _ ⟨c9, rfl⟩ K2 hr he hn hc
      have rx : RowD i big x := by
        simp at hxx
        rcases hxx with rfl | rfl | rfl <;> assumption
      simp [toldB]
      refine told_sp i1 i2 ra rx k1 k2 ?_
      simp
      refine told_sp i1 i2 rx ra k1 k2 ?_
      simp
      exact hn _ ⟨_, rfl⟩
    · rintro _ ⟨c9, rfl⟩
      exact hK _ ⟨c9, rfl⟩
  rintro _ ⟨c9', rfl⟩
  apply seq_p (fun Γ => ∃ (ys : List PD), Jar (t + 25) ys ∧ Γ = [c0, .own (.lst ys), c2, .d (.int (i : Int)), .d (.tuple (as.map .int)), .d (.tuple (bs.map .int)), .d (.tuple (cs.map .int)), c7', .d (.int k), c9', .u])
  · intro K hK
    simp
    refine refused_sp (t := t + 25) i1 i2 hy4 ra rb fun ws hw => ?_
    simp
    exact hK _ ⟨ws, hw, rfl⟩
  rintro _ ⟨ys5, hy5, rfl⟩
  apply seq_p (fun Γ => ∃ (k : Int) (ys : List PD), (0 ≤ k ∧ k < 251) ∧ Jar (t + 24) ys ∧ Γ = [c0, .own (.lst ys), c2, .d (.int (i : Int)), .d (.tuple (as.map .int)), .d (.tuple (bs.map .int)), .d (.tuple (cs.map .int)), c7', .d (.int k), c9', .u])
  · intro K hK
    simp
    refine l_take (b := t + 24) hy5 (by omega) (by omega) fun k ws k1 k2 hw => ?_
    simp
    exact hK _ ⟨k, ws, ⟨k1, k2⟩, hw, rfl⟩
  rintro _ ⟨k', ys6, ⟨k3, k4⟩, hy6, rfl⟩
  have hw := nat_whole i1 i2
  have hk : wholeD (.int k') 0 250 = true := by simp [wholeD, k3]; omega
  have e : o_even (.int (i : Int)) (.int k') = .ok (.tuple (repD i [.int k'])) := by simp [o_even, o_st_yes hw, hk]
  simp [m_even_eq, e, szl]
  refine ⟨by omega, by omega, ?_⟩
  rw [same_eq rfl (by simp [okD, repD_len]; exact ⟨by omega, fun x hx => rep_ok hx⟩)]
  simp
  exact h _ _ _ _ _ _ _ _ _ (hy6.le (by omega))
theorem plain_law (a : Addr) (ns : List Int) (hl : ns.length ≤ 63) (hb : ∀ z ∈ ns, Builtin.Int.intBits z ≤ 1048576) : m_law a ns [.pin (.ref a)] (fun r _ => r = .d (.bool true)) no := by
  simp only [m_law, mOf, law_eq]
  apply seq_p (fun Γ => ∃ js, Jar 100000000 js ∧ Γ = [.pin (.ref a), .own (.lst js), .u, .u, .u, .u, .u, .u, .u, .u, .u])
  · intro K hK
    simp
    refine pool_sp (ad := a) (ns := ns) (by omega) fun js hj => ?_
    simp
    exact hK _ ⟨js, hj, rfl⟩
  rintro _ ⟨js, hj, rfl⟩
  apply seq_p (fun _ => True)
  · intro K hK
    apply for_i
    · intro K1 hK1
      simp
      exact hK1
    refine for_all (fun n Γ => ∃ c2 c3 c4 c5 c6 c7 c8 c9 js, Jar (n * 100) js ∧ Γ = [.pin (.ref a), .own (.lst js), c2, c3, c4, c5, c6, c7, c8, c9, .u]) _ ?_ (fun Γ _ => hK Γ trivial) _ ⟨_, _, _, _, _, _, _, _, js, hj.le (by rw [rngD_len]; decide), rfl⟩
    rintro x _ n _ ⟨c2, c3, c4, c5, c6, c7, c8, c9, ys, hy, rfl⟩ K2 hr he hn hc
    refine go_sp (t := n * 100) (hy.le (by omega)) fun c2 c3 c4 c5 c6 c7 c8 c9 js hj => hn _ ⟨_, _, _, _, _, _, _, _, js, hj, rfl⟩
  rintro Γ -
  simp
  refine hand_sp ?_
  simp
end LW

set_option Elab.async false
set_option linter.all false
set_option maxRecDepth 100000
set_option maxHeartbeats 0

namespace LW
open PySem PySem.Spec PyProof.Rows L2 DL
theorem law_at {w : World} {h : Heap} {K : PySem.W.Frag} {mg : Str → Option Value} {fa0 : Addr} (X : K.In h) (G : h.Ns mainGlobals mg) (c : He.SaysX fa fn [] tf ex w h K) (hfa : mg "law" = some (.ref fa0)) : LamX.LawAtS PySem.Challenge.rw_fewstories_k07_rows_and_limits w K (L2N.CX (PySem.Challenge.rw_fewstories_k07_rows_and_limits).prog w) 17 63 "script" mg fa0 h := by
  have T := tx_of X G c
  have e := hfa.symm.trans T.g_law
  cases e
  refine ⟨fdOf K ("law", none), tf.map (He.cT K), spS K mg (TTof K tf) 1 m_law, fun p hp => ?_, fun p hp => ?_, fun p hp => ?_, fun s u => ?_, fun H a ns hl hb hH hS => ?_, fun base kb nb tb => ?_⟩
  · obtain ⟨q, hq, rfl⟩ := List.mem_map.mp hp
    exact c.empty q hq
  · obtain ⟨q, hq, rfl⟩ := List.mem_map.mp hp
    exact c.out q hq
  · obtain ⟨q, hq, rfl⟩ := List.mem_map.mp hp
    exact PySem.W.codeHd_of_K X (c.hd q hq)
  · obtain ⟨oc, od, kV, doc, pm, an, ct, osl, e, _⟩ := T.F_law.ex
    rw [e]
    exact .of_eq rfl
  · exact law_sp (fun p hp => hH _ (List.mem_map.mpr ⟨p, hp, rfl⟩)) hS (plain_law a ns hl hb)
  · exact ok_law T fun p hp => tb _ (List.mem_map.mpr ⟨p, hp, rfl⟩)
end LW
open PySem PySem.W PySem.Calls PyProof.Rows
set_option maxHeartbeats 0 in
theorem PySem.Challenge.cw_fewstories_k07_rows_and_limits_holds : PySem.Challenge.rw_fewstories_k07_rows_and_limits.Holds := by
  w_on; o_law
  refine HandSHeadRun.head_any (r := OpenLaw.row PySem.Challenge.rw_fewstories_k07_rows_and_limits) (q := view (OpenLaw.row PySem.Challenge.rw_fewstories_k07_rows_and_limits).prog [44]) (H := LW.hk) (ob := LW.ob) (M := 9000) (loose := LW.loose) (d := HandSHeadRun.topDef (OpenLaw.row PySem.Challenge.rw_fewstories_k07_rows_and_limits).prog 44) (kwd := []) LW.ob_eq
    (by kernel_rfl) (fun s => by kernel_rfl) LW.run (by kernel_rfl) (by kernel_rfl) (by kernel_rfl) (by rfl) (by first | assumption | decide +kernel) (by decide +kernel) ⟨rfl, rfl, rfl, rfl, rfl, by decide +kernel⟩ ?hw ?hc
  case hw => w_witness2
  case hc =>
    refine LamX.walk_ofTsE (l := PySem.Challenge.rw_fewstories_k07_rows_and_limits) (n := 63) (k := 17) (x := "script") (CX := fun w => L2N.CX (PySem.Challenge.rw_fewstories_k07_rows_and_limits).prog w) rfl (by decide) (by kernel_rfl) ⟨rfl, by decide, by decide⟩ ?F (fun w H s e s' z => ?_)
    case F =>
      intro w mg fa h Y G hmg0
      obtain ⟨K, KX, c⟩ := Y
      have hmg : mg ("law" : PySem.Str) = some (.ref fa) := by
        have e : (HandSHeadRun.topDef (OpenLaw.row PySem.Challenge.rw_fewstories_k07_rows_and_limits).prog 44).name = ("law" : PySem.Str) := by kernel_rfl
        rw [← e]
        exact hmg0
      exact ⟨K, KX, LW.law_at KX G c hmg⟩
    obtain ⟨_, _, _, _, _, _, _, _, _, _, _, _, z⟩ := z
    exact z.elim
