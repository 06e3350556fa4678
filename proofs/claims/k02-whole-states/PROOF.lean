import PyProof.Rows.All
import Wide.All
import OpenK.AllK
import Wide.FinOn
import HandS.ForMost
import HandS.ForExc
import HandS.IsInst
import HandS.MakeKwOnly
import HandS.Defaults
import HandS.Zip
import HandS.ExcInit
import HandS.ExcField
import HandS.Style
import HandS.Conv
import HandS.Sort
import HandS.TupAny
import PySem.Challenge.RW_lapnumbers_k02_whole_states
import KE.KExcSuper
import HandS.ClsMeth
set_option Elab.async false
set_option linter.all false
set_option maxRecDepth 100000
set_option maxHeartbeats 4000000
/-! The data layer: what an expression gives, said of data alone. -/
namespace Lap
open PySem PySem.Spec L2
open PyProof.Rows hiding St

/-! ### data -/
/-- a wheel's rules -/
structure Wr where
  size : Int
  freeze : Int
  stop : Option Int
  hold : Bool
  cut : Option Int
def holdS (b : Bool) : Str := if b then "yes" else "no"
def optV : Option Int → V
  | none => .non
  | some i => .int i
def whF (r : Wr) : List (Str × V) := [("size", .int r.size), ("freeze", .int r.freeze), ("stop", optV r.stop), ("hold", .str (holdS r.hold)), ("cut", optV r.cut)]
inductive Dx where
  | non | bl (b : Bool) | int (i : Int) | str (x : Str)
  | tup (l : List Dx) | lst (l : List Dx) | scr (l : List Int) | rng (lo hi : Int) | dic | wh (r : Wr) | raw (v : V)
def optD : Option Int → Dx
  | none => .non
  | some i => .int i
mutual
inductive DX (K : PySem.W.Frag) (C : Addr) (G : Hp) : V → Dx → Prop
  | non : DX K C G .non .non
  | bl (b : Bool) : DX K C G (.bl b) (.bl b)
  | int (i : Int) : DX K C G (.int i) (.int i)
  | str (x : Str) : DX K C G (.str x) (.str x)
  | tup {a : Addr} {xs : List V} {ds : List Dx} : SqT K G a xs → DXs K C G xs ds → DX K C G (.ref a) (.tup ds)
  | lst {a : Addr} {xs : List V} {ds : List Dx} : G a = some (.lst xs) → DXs K C G xs ds → DX K C G (.ref a) (.lst ds)
  | scr {a : Addr} {ns : List Int} : SqL K G a (ns.map V.int) → DX K C G (.ref a) (.scr ns)
  | rng {a : Addr} {lo hi : Int} : G a = some (.rng lo hi) → DX K C G (.ref a) (.rng lo hi)
  | dic {a : Addr} : G a = some (.dK []) → DX K C G (.ref a) .dic
  | wh {a dx : Addr} {r : Wr} : G a = some (.ins C dx (whF r)) → DX K C G (.ref a) (.wh r)
  | raw (v : V) : DX K C G v (.raw v)
inductive DXs (K : PySem.W.Frag) (C : Addr) (G : Hp) : List V → List Dx → Prop
  | nil : DXs K C G [] []
  | cons {v : V} {vs : List V} {d : Dx} {ds : List Dx} : DX K C G v d → DXs K C G vs ds → DXs K C G (v :: vs) (d :: ds)
end
theorem same_tup {K : PySem.W.Frag} {H H' : Hp} {a : Addr} {xs : List V} (e : Same H H') (h : SqT K H a xs) : SqT K H' a xs := by
  rcases h with (h | ⟨o, h⟩) | h
  · exact .inl (.inl (e _ _ h))
  · exact .inl (.inr ⟨o, e _ _ h⟩)
  · exact .inr h
section
variable {K : PySem.W.Frag} {C : Addr} {G G' : Hp}
mutual
theorem DX.mono (s : Same G G') : ∀ {v : V} {d : Dx}, DX K C G v d → DX K C G' v d
  | _, _, .non => .non
  | _, _, .bl b => .bl b
  | _, _, .int i => .int i
  | _, _, .str x => .str x
  | _, _, .tup h r => .tup (same_tup s h) (DXs.mono s r)
  | _, _, .lst h r => .lst (s _ _ h) (DXs.mono s r)
  | _, _, .scr h => .scr (s.seq h)
  | _, _, .rng h => .rng (s _ _ h)
  | _, _, .dic h => .dic (s _ _ h)
  | _, _, .wh h => .wh (s _ _ h)
  | _, _, .raw v => .raw v
theorem DXs.mono (s : Same G G') : ∀ {vs : List V} {ds : List Dx}, DXs K C G vs ds → DXs K C G' vs ds
  | _, _, .nil => .nil
  | _, _, .cons a r => .cons (DX.mono s a) (DXs.mono s r)
end
theorem DXs.length : ∀ {vs : List V} {ds : List Dx}, DXs K C G vs ds → vs.length = ds.length
  | _, _, .nil => rfl
  | _, _, .cons _ r => congrArg Nat.succ (DXs.length r)
theorem DXs.get : ∀ {vs : List V} {ds : List Dx} {i : Nat} {d : Dx}, DXs K C G vs ds → ds[i]? = some d → ∃ v, vs[i]? = some v ∧ DX K C G v d
  | _, _, _, _, .nil, e => by simp at e
  | _, _, 0, _, .cons a _, e => by simp at e; subst e; exact ⟨_, rfl, a⟩
  | _, _, i + 1, d, .cons _ r, e => by
    obtain ⟨v, h1, h2⟩ := DXs.get (i := i) (d := d) r (by simpa using e)
    exact ⟨v, by simpa using h1, h2⟩
theorem DXs.get' : ∀ {vs : List V} {ds : List Dx} {i : Nat} {v : V}, DXs K C G vs ds → vs[i]? = some v → ∃ d, ds[i]? = some d ∧ DX K C G v d
  | _, _, _, _, .nil, e => by simp at e
  | _, _, 0, _, .cons a _, e => by simp at e; subst e; exact ⟨_, rfl, a⟩
  | _, _, i + 1, d, .cons _ r, e => by
    obtain ⟨v, h1, h2⟩ := DXs.get' (i := i) (v := d) r (by simpa using e)
    exact ⟨v, by simpa using h1, h2⟩
theorem DXs.append : ∀ {vs ws : List V} {ds es : List Dx}, DXs K C G vs ds → DXs K C G ws es → DXs K C G (vs ++ ws) (ds ++ es)
  | _, _, _, _, .nil, s => s
  | _, _, _, _, .cons r t, s => .cons r (DXs.append t s)
theorem DXs.take : ∀ {vs : List V} {ds : List Dx} (n : Nat), DXs K C G vs ds → DXs K C G (vs.take n) (ds.take n)
  | _, _, 0, _ => .nil
  | _, _, _ + 1, .nil => .nil
  | _, _, n + 1, .cons r t => .cons r (DXs.take n t)
theorem DXs.drop : ∀ {vs : List V} {ds : List Dx} (n : Nat), DXs K C G vs ds → DXs K C G (vs.drop n) (ds.drop n)
  | _, _, 0, r => r
  | _, _, _ + 1, .nil => .nil
  | _, _, n + 1, .cons _ t => DXs.drop n t
theorem DXs.bls : ∀ {vs : List V} {bs : List Bool}, DXs K C G vs (bs.map Dx.bl) → vs = bs.map V.bl
  | _, [], .nil => rfl
  | _, b :: bs, .cons (.bl _) r => by rw [DXs.bls (bs := bs) r]; rfl
theorem DXs.ints : ∀ {vs : List V} {ns : List Int}, DXs K C G vs (ns.map Dx.int) → vs = ns.map V.int
  | _, [], .nil => rfl
  | _, b :: bs, .cons (.int _) r => by rw [DXs.ints (ns := bs) r]; rfl
theorem DXs.strs : ∀ {vs : List V} {ns : List Str}, DXs K C G vs (ns.map Dx.str) → vs = ns.map V.str
  | _, [], .nil => rfl
  | _, b :: bs, .cons (.str _) r => by rw [DXs.strs (ns := bs) r]; rfl
theorem DXs.mk_ints : ∀ (ns : List Int), DXs K C G (ns.map V.int) (ns.map Dx.int)
  | [] => .nil
  | _ :: r => .cons (.int _) (DXs.mk_ints r)
theorem DX.optI {v : V} {o : Option Int} (h : DX K C G v (optD o)) : v = optV o := by
  cases o with
  | none => cases h; rfl
  | some i => cases h; rfl
theorem DX.mk_opt : ∀ (o : Option Int), DX K C G (optV o) (optD o)
  | none => .non
  | some i => .int i
end

/-! ### heaps: what lies still (G) within what is tracked (H) -/
structure Ext4 (G H G' H' : Hp) : Prop where
  g : Same G G'
  h : Same H H'
  v : Same G' H'
  n : ∀ a, G a = none → H a ≠ none → G' a = none
theorem Ext4.refl {G H : Hp} (s : Same G H) : Ext4 G H G H := ⟨.refl _, .refl _, s, fun _ h _ => h⟩
theorem Ext4.trans {G H G1 H1 G2 H2 : Hp} (a : Ext4 G H G1 H1) (b : Ext4 G1 H1 G2 H2) : Ext4 G H G2 H2 :=
  ⟨a.g.trans b.g, a.h.trans b.h, b.v, fun x h1 h2 => b.n x (a.n x h1 h2) fun z => h2 (by
    cases e : H x with
    | none => rfl
    | some o => rw [a.h x o e] at z; cases z)⟩
/-- a new thing that lies still -/
theorem Ext4.new {G H : Hp} {p : Addr} {o : HO} (s : Same G H) (hp : H p = none) : Ext4 G H (upd G p o) (upd H p o) := by
  have gp : G p = none := s.free hp
  refine ⟨fun b x e => ?_, fun b x e => ?_, fun b x e => ?_, fun b h1 h2 => ?_⟩
  · rw [upd_ne (ne_of_none e gp)]; exact e
  · rw [upd_ne (ne_of_none e hp)]; exact e
  · by_cases hb : b = p
    · subst hb; rw [upd_same] at e ⊢; exact e
    · rw [upd_ne hb] at e ⊢; exact s _ _ e
  · have hb : b ≠ p := fun z => h2 (by rw [z]; exact hp)
    rw [upd_ne hb]; exact h1
/-- a new thing that does not lie still -/
theorem Ext4.own {G H : Hp} {p : Addr} {o : HO} (s : Same G H) (hp : H p = none) : Ext4 G H G (upd H p o) := by
  refine ⟨.refl _, fun b x e => ?_, fun b x e => ?_, fun b h1 h2 => h1⟩
  · rw [upd_ne (ne_of_none e hp)]; exact e
  · rw [upd_ne (ne_of_none (s _ _ e) hp)]; exact s _ _ e

/-! ### slots -/
inductive Sl where
  | d (x : Dx)
  | own (l : List Dx)
  | dct (l : List (Key × V))
abbrev Gm := List (Option Sl)
/-- the class Wheel, what lay still at the entry, what was tracked -/
structure Fm where
  C : Addr
  G : Hp
  H : Hp
def SlOk (K : PySem.W.Frag) (F : Fm) (G H : Hp) (v : V) : Sl → Prop
  | .d x => DX K F.C G v x
  | .own l => ∃ p xs, v = .ref p ∧ F.H p = none ∧ G p = none ∧ H p = some (.lst xs) ∧ DXs K F.C G xs l
  | .dct l => ∃ p, v = .ref p ∧ F.H p = none ∧ G p = none ∧ H p = some (.dK l)
theorem SlOk.step {K : PySem.W.Frag} {F : Fm} {G H G' H' : Hp} {v : V} {s : Sl} (e : Ext4 G H G' H') (h : SlOk K F G H v s) : SlOk K F G' H' v s := by
  cases s with
  | d x => exact DX.mono e.g h
  | own l =>
    obtain ⟨p, xs, rfl, h1, h2, h3, h4⟩ := h
    exact ⟨p, xs, rfl, h1, e.n p h2 (by rw [h3]; exact fun z => by cases z), e.h _ _ h3, DXs.mono e.g h4⟩
  | dct l =>
    obtain ⟨p, rfl, h1, h2, h3⟩ := h
    exact ⟨p, rfl, h1, e.n p h2 (by rw [h3]; exact fun z => by cases z), e.h _ _ h3⟩
structure ST (K : PySem.W.Frag) (F : Fm) (Γ : Gm) (G H : Hp) (σ : St) : Prop where
  len : σ.length = Γ.length
  sl : ∀ (i : Nat) (s : Sl), Γ[i]? = some (some s) → ∃ v, σ[i]? = some (some v) ∧ SlOk K F G H v s
  dis : ∀ (i j : Nat) (p : Addr) (l l' : List Dx), Γ[i]? = some (some (.own l)) → Γ[j]? = some (some (.own l')) → σ[i]? = some (some (.ref p)) → σ[j]? = some (some (.ref p)) → i = j
  same : Same G H
  ext : Ext4 F.G F.H G H
section
variable {K : PySem.W.Frag} {F : Fm} {Γ : Gm} {G H G' H' : Hp} {σ : St}
theorem ST.step (h : ST K F Γ G H σ) (e : Ext4 G H G' H') : ST K F Γ G' H' σ :=
  ⟨h.len, fun i s q => let ⟨v, h1, h2⟩ := h.sl i s q; ⟨v, h1, h2.step e⟩, h.dis, e.v, h.ext.trans e⟩
theorem set_get {α : Type} {l : List (Option α)} {i j : Nat} {x : α} {o : Option α} (h : (l.set i o)[j]? = some (some x)) : (j = i ∧ o = some x) ∨ (j ≠ i ∧ l[j]? = some (some x)) := by
  by_cases e : j = i
  · subst e
    by_cases hl : j < l.length
    · rw [List.getElem?_set_self hl] at h
      exact .inl ⟨rfl, Option.some.inj h⟩
    · rw [List.getElem?_eq_none_iff.mpr (by rw [List.length_set]; omega)] at h
      cases h
  · rw [List.getElem?_set_ne (Ne.symm e)] at h
    exact .inr ⟨e, h⟩
theorem ST.put (h : ST K F Γ G H σ) {i : Nat} {v : V} {d : Dx} (hd : DX K F.C G v d) : ST K F (Γ.set i (some (.d d))) G H (σ.set i (some v)) := by
  refine ⟨by rw [List.length_set, List.length_set, h.len], fun j s q => ?_, fun j k p l l' q1 q2 e1 e2 => ?_, h.same, h.ext⟩
  · rcases set_get q with ⟨rfl, e⟩ | ⟨ne, q⟩
    · cases e
      have hj : j < σ.length := by
        rw [h.len, ← List.length_set]
        exact (List.getElem?_eq_some_iff.mp q).1
      exact ⟨v, List.getElem?_set_self hj, hd⟩
    · obtain ⟨u, h1, h2⟩ := h.sl j s q
      exact ⟨u, by rw [List.getElem?_set_ne (Ne.symm ne)]; exact h1, h2⟩
  · rcases set_get q1 with ⟨_, e⟩ | ⟨ne1, q1⟩
    · cases e
    rcases set_get q2 with ⟨_, e⟩ | ⟨ne2, q2⟩
    · cases e
    rw [List.getElem?_set_ne (Ne.symm ne1)] at e1
    rw [List.getElem?_set_ne (Ne.symm ne2)] at e2
    exact h.dis j k p l l' q1 q2 e1 e2
theorem ST.lose (h : ST K F Γ G H σ) {i : Nat} {o : Option V} : ST K F (Γ.set i none) G H (σ.set i o) := by
  refine ⟨by rw [List.length_set, List.length_set, h.len], fun j s q => ?_, fun j k p l l' q1 q2 e1 e2 => ?_, h.same, h.ext⟩
  · rcases set_get q with ⟨rfl, e⟩ | ⟨ne, q⟩
    · cases e
    · obtain ⟨u, h1, h2⟩ := h.sl j s q
      exact ⟨u, by rw [List.getElem?_set_ne (Ne.symm ne)]; exact h1, h2⟩
  · rcases set_get q1 with ⟨_, e⟩ | ⟨ne1, q1⟩
    · cases e
    rcases set_get q2 with ⟨_, e⟩ | ⟨ne2, q2⟩
    · cases e
    rw [List.getElem?_set_ne (Ne.symm ne1)] at e1
    rw [List.getElem?_set_ne (Ne.symm ne2)] at e2
    exact h.dis j k p l l' q1 q2 e1 e2
/-- a new list of the def's own, in slot i -/
theorem ST.putOwn (h : ST K F Γ G H σ) {i : Nat} {p : Addr} (hp : H p = none) : ST K F (Γ.set i (some (.own []))) G (upd H p (.lst [])) (σ.set i (some (.ref p))) := by
  have e := Ext4.own (o := .lst []) h.same hp
  have h' := h.step e
  refine ⟨by rw [List.length_set, List.length_set, h.len], fun j s q => ?_, fun j k a l l' q1 q2 e1 e2 => ?_, h'.same, h'.ext⟩
  · rcases set_get q with ⟨rfl, ee⟩ | ⟨ne, q⟩
    · cases ee
      have hj : j < σ.length := by
        rw [h.len, ← List.length_set]
        exact (List.getElem?_eq_some_iff.mp q).1
      exact ⟨.ref p, List.getElem?_set_self hj, p, [], rfl, h.ext.h.free hp, h.same.free hp, upd_same, .nil⟩
    · obtain ⟨u, h1, h2⟩ := h'.sl j s q
      exact ⟨u, by rw [List.getElem?_set_ne (Ne.symm ne)]; exact h1, h2⟩
  · have nop : ∀ (k : Nat) (l : List Dx), k ≠ i → Γ[k]? = some (some (.own l)) → σ[k]? ≠ some (some (.ref p)) := fun k l ne q z => by
      obtain ⟨u, h1, b, xs, rfl, _, _, h3, _⟩ := h.sl k _ q
      rw [z] at h1
      cases h1
      rw [hp] at h3
      cases h3
    rcases set_get q1 with ⟨r1, _⟩ | ⟨ne1, q1'⟩
    · rcases set_get q2 with ⟨r2, _⟩ | ⟨ne2, q2'⟩
      · rw [r1, r2]
      · subst r1
        have hj : j < σ.length := by
          have := (List.getElem?_eq_some_iff.mp e1).1
          rw [List.length_set] at this
          exact this
        rw [List.getElem?_set_self hj] at e1
        cases e1
        rw [List.getElem?_set_ne (Ne.symm ne2)] at e2
        exact absurd e2 (nop k _ ne2 q2')
    · rw [List.getElem?_set_ne (Ne.symm ne1)] at e1
      rcases set_get q2 with ⟨r2, _⟩ | ⟨ne2, q2'⟩
      · subst r2
        have hk : k < σ.length := by
          have := (List.getElem?_eq_some_iff.mp e2).1
          rw [List.length_set] at this
          exact this
        rw [List.getElem?_set_self hk] at e2
        cases e2
        exact absurd e1 (nop j _ ne1 q1')
      · rw [List.getElem?_set_ne (Ne.symm ne2)] at e2
        exact h.dis j k a l l' q1' q2' e1 e2
/-- the own list in slot i grows -/
theorem ST.grow (h : ST K F Γ G H σ) {i : Nat} {p : Addr} {xs : List V} {l : List Dx} {v : V} {d : Dx} (hi : Γ[i]? = some (some (.own l))) (hs : σ[i]? = some (some (.ref p))) (hp : H p = some (.lst xs)) (hd : DX K F.C G v d) :
    ST K F (Γ.set i (some (.own (l ++ [d])))) G (upd H p (.lst (xs ++ [v]))) σ := by
  obtain ⟨u, h1, b, ys, rfl, fp, gp, hb, hl⟩ := h.sl i _ hi
  rw [hs] at h1
  cases h1
  rw [hp] at hb
  cases hb
  have gne : ∀ a o, G a = some o → a ≠ p := fun a o q => ne_of_none q gp
  refine ⟨by rw [List.length_set, h.len], fun j s q => ?_, fun j k a m m' q1 q2 e1 e2 => ?_, fun a o q => ?_, ⟨h.ext.g, fun a o q => ?_, fun a o q => ?_, h.ext.n⟩⟩
  · rcases set_get q with ⟨rfl, ee⟩ | ⟨ne, q⟩
    · cases ee
      exact ⟨.ref p, hs, p, _, rfl, fp, gp, upd_same, hl.append (.cons hd .nil)⟩
    · obtain ⟨u, h1, h2⟩ := h.sl j s q
      refine ⟨u, h1, ?_⟩
      cases s with
      | d x => exact h2
      | own m =>
        obtain ⟨c, zs, rfl, z1, z2, z3, z4⟩ := h2
        have : c ≠ p := fun z => by
          subst z
          exact ne (h.dis _ _ _ _ _ q hi h1 hs)
        exact ⟨c, zs, rfl, z1, z2, by rw [upd_ne this]; exact z3, z4⟩
      | dct m =>
        obtain ⟨c, rfl, z1, z2, z3⟩ := h2
        have : c ≠ p := ne_of z3 hp fun z => by cases z
        exact ⟨c, rfl, z1, z2, by rw [upd_ne this]; exact z3⟩
  · have back : ∀ (j : Nat) (m : List Dx), (Γ.set i (some (.own (l ++ [d]))))[j]? = some (some (.own m)) → ∃ m', Γ[j]? = some (some (.own m')) := fun j m q => by
      rcases set_get q with ⟨rfl, _⟩ | ⟨_, q⟩
      · exact ⟨_, hi⟩
      · exact ⟨_, q⟩
    obtain ⟨m1, q1⟩ := back _ _ q1
    obtain ⟨m2, q2⟩ := back _ _ q2
    exact h.dis j k a m1 m2 q1 q2 e1 e2
  · rw [upd_ne (gne _ _ q)]; exact h.same _ _ q
  · rw [upd_ne (ne_of_none q fp)]; exact h.ext.h _ _ q
  · rw [upd_ne (gne _ _ q)]; exact h.same _ _ q
/-- the own list in slot i lies still from here on -/
theorem ST.freeze (h : ST K F Γ G H σ) {i : Nat} {l : List Dx} (hi : Γ[i]? = some (some (.own l))) : ∃ G', ST K F (Γ.set i (some (.d (.lst l)))) G' H σ ∧ Same G G' := by
  obtain ⟨u, hs, p, xs, rfl, fp, gp, hp, hl⟩ := h.sl i _ hi
  have sG : Same G (upd G p (.lst xs)) := fun a o q => by rw [upd_ne (ne_of_none q gp)]; exact q
  have sH : Same (upd G p (.lst xs)) H := fun a o q => by
    by_cases ha : a = p
    · subst ha; rw [upd_same] at q; rw [hp]; exact q
    · rw [upd_ne ha] at q; exact h.same _ _ q
  refine ⟨upd G p (.lst xs), ⟨by rw [List.length_set, h.len], fun j s q => ?_, fun j k a m m' q1 q2 e1 e2 => ?_, sH, ⟨h.ext.g.trans sG, h.ext.h, sH, fun a h1 h2 => ?_⟩⟩, sG⟩
  · rcases set_get q with ⟨rfl, ee⟩ | ⟨ne, q⟩
    · cases ee
      exact ⟨.ref p, hs, .lst upd_same (hl.mono sG)⟩
    · obtain ⟨u, h1, h2⟩ := h.sl j s q
      refine ⟨u, h1, ?_⟩
      cases s with
      | d x => exact DX.mono sG h2
      | own m =>
        obtain ⟨c, zs, rfl, z1, z2, z3, z4⟩ := h2
        have : c ≠ p := fun z => by
          subst z
          exact ne (h.dis _ _ _ _ _ q hi h1 hs)
        exact ⟨c, zs, rfl, z1, by rw [upd_ne this]; exact z2, z3, z4.mono sG⟩
      | dct m =>
        obtain ⟨c, rfl, z1, z2, z3⟩ := h2
        have : c ≠ p := ne_of z3 hp fun z => by cases z
        exact ⟨c, rfl, z1, by rw [upd_ne this]; exact z2, z3⟩
  · rcases set_get q1 with ⟨_, e⟩ | ⟨ne1, q1⟩
    · cases e
    rcases set_get q2 with ⟨_, e⟩ | ⟨ne2, q2⟩
    · cases e
    exact h.dis j k a m m' q1 q2 e1 e2
  · have : a ≠ p := fun z => h2 (by rw [z]; exact fp)
    rw [upd_ne this]
    exact h.ext.n a h1 h2
end
section
variable {K : PySem.W.Frag} {F : Fm} {Γ : Gm} {G H : Hp} {σ : St}
/-- a slot that holds the dict at p, new and the def's own -/
theorem ST.putDct (h : ST K F Γ G H σ) {i : Nat} {p : Addr} {l : List (Key × V)} (fp : F.H p = none) (gp : G p = none) (hp : H p = some (.dK l)) : ST K F (Γ.set i (some (.dct l))) G H (σ.set i (some (.ref p))) := by
  refine ⟨by rw [List.length_set, List.length_set, h.len], fun j s q => ?_, fun j k p l l' q1 q2 e1 e2 => ?_, h.same, h.ext⟩
  · rcases set_get q with ⟨rfl, e⟩ | ⟨ne, q⟩
    · cases e
      have hj : j < σ.length := by
        rw [h.len, ← List.length_set]
        exact (List.getElem?_eq_some_iff.mp q).1
      exact ⟨.ref p, List.getElem?_set_self hj, p, rfl, fp, gp, hp⟩
    · obtain ⟨u, h1, h2⟩ := h.sl j s q
      exact ⟨u, by rw [List.getElem?_set_ne (Ne.symm ne)]; exact h1, h2⟩
  · rcases set_get q1 with ⟨_, e⟩ | ⟨ne1, q1⟩
    · cases e
    rcases set_get q2 with ⟨_, e⟩ | ⟨ne2, q2⟩
    · cases e
    rw [List.getElem?_set_ne (Ne.symm ne1)] at e1
    rw [List.getElem?_set_ne (Ne.symm ne2)] at e2
    exact h.dis j k p l l' q1 q2 e1 e2
/-- the dict in slot i changes; no other slot holds a dict -/
theorem ST.dput (h : ST K F Γ G H σ) {i : Nat} {p : Addr} {l l2 : List (Key × V)} (hi : Γ[i]? = some (some (.dct l))) (hs : σ[i]? = some (some (.ref p))) (one : ∀ (j : Nat) (m : List (Key × V)), Γ[j]? = some (some (.dct m)) → j = i) :
    ST K F (Γ.set i (some (.dct l2))) G (upd H p (.dK l2)) σ := by
  obtain ⟨u, h1, b, rfl, fp, gp, hb⟩ := h.sl i _ hi
  rw [hs] at h1
  cases h1
  have gne : ∀ a o, G a = some o → a ≠ p := fun a o q => ne_of_none q gp
  refine ⟨by rw [List.length_set, h.len], fun j s q => ?_, fun j k a m m' q1 q2 e1 e2 => ?_, fun a o q => ?_, ⟨h.ext.g, fun a o q => ?_, fun a o q => ?_, h.ext.n⟩⟩
  · rcases set_get q with ⟨rfl, ee⟩ | ⟨ne, q⟩
    · cases ee
      exact ⟨.ref p, hs, p, rfl, fp, gp, upd_same⟩
    · obtain ⟨u, h1, h2⟩ := h.sl j s q
      refine ⟨u, h1, ?_⟩
      cases s with
      | d x => exact h2
      | own m =>
        obtain ⟨c, zs, rfl, z1, z2, z3, z4⟩ := h2
        have : c ≠ p := ne_of z3 hb fun z => by cases z
        exact ⟨c, zs, rfl, z1, z2, by rw [upd_ne this]; exact z3, z4⟩
      | dct m => exact absurd (one j m q) ne
  · have back : ∀ (j : Nat) (m : List Dx), (Γ.set i (some (.dct l2)))[j]? = some (some (.own m)) → Γ[j]? = some (some (.own m)) := fun j m q => by
      rcases set_get q with ⟨_, e⟩ | ⟨_, q⟩
      · cases e
      · exact q
    exact h.dis j k a m m' (back _ _ q1) (back _ _ q2) e1 e2
  · rw [upd_ne (gne _ _ q)]; exact h.same _ _ q
  · rw [upd_ne (ne_of_none q fp)]; exact h.ext.h _ _ q
  · rw [upd_ne (gne _ _ q)]; exact h.same _ _ q
end
def Le (Γ' Γ : Gm) : Prop := Γ'.length = Γ.length ∧ ∀ (i : Nat) (s : Sl), Γ[i]? = some (some s) → Γ'[i]? = some (some s)
theorem ST.weak {K : PySem.W.Frag} {F : Fm} {Γ Γ' : Gm} {G H : Hp} {σ : St} (h : ST K F Γ' G H σ) (l : Le Γ' Γ) : ST K F Γ G H σ :=
  ⟨h.len.trans l.1, fun i s q => h.sl i s (l.2 i s q), fun i j p a b q1 q2 => h.dis i j p a b (l.2 _ _ q1) (l.2 _ _ q2), h.same, h.ext⟩
end Lap
set_option maxHeartbeats 4000000
/-! The data layer: rules for expressions. -/
namespace Lap
open PySem PySem.Spec L2
open PyProof.Rows hiding St

/-! ### readings -/
def tD (K : PySem.W.Frag) (F : Fm) (Γ : Gm) (d : Dx) : TE := fun σ H Q => ∃ G, ST K F Γ G H σ ∧ ∀ v G' H', Ext4 G H G' H' → DX K F.C G' v d → Q v H'
def tT (K : PySem.W.Frag) (F : Fm) (Γ : Gm) (b : Bool) : TT := fun σ H Q => ∃ G, ST K F Γ G H σ ∧ ∀ G' H', Ext4 G H G' H' → Q b H'
def tAr (K : PySem.W.Frag) (F : Fm) (Γ : Gm) (ds : List Dx) : TA := fun σ H Q => ∃ G, ST K F Γ G H σ ∧ ∀ vs G' H', Ext4 G H G' H' → DXs K F.C G' vs ds → Q vs H'
/-- with the slots holding Γ, e gives the data d -/
abbrev PD (X : Cx) (F : Fm) (Γ : Gm) (e : Expr) (d : Dx) : Prop := PE X e (tD X.K F Γ d)
abbrev TD (X : Cx) (F : Fm) (Γ : Gm) (e : Expr) (b : Bool) : Prop := PT X e (tT X.K F Γ b)
abbrev TW (X : Cx) (F : Fm) (Γ : Gm) (e : Expr) (b : Bool) : Prop := PW X e (tT X.K F Γ b)
abbrev AD (X : Cx) (F : Fm) (Γ : Gm) (es : List Expr) (ds : List Dx) : Prop := PA X es (tAr X.K F Γ ds)

section
variable {X : Cx} {F : Fm} {Γ : Gm} {a b c e : Expr} {es : List Expr} {pos : Pos} {da db d : Dx} {ds : List Dx}
theorem pe_imp {t t' : TE} (h : PE X e t) (k : ∀ σ H Q, t' σ H Q → t σ H Q) : PE X e t' := ⟨fun pins s σ H Q I q => h.run pins s σ H Q I (k σ H Q q)⟩
theorem pt_imp {t t' : TT} (h : PT X e t) (k : ∀ σ H Q, t' σ H Q → t σ H Q) : PT X e t' := ⟨fun pins s σ H Q I q => h.run pins s σ H Q I (k σ H Q q)⟩
theorem pw_imp {t t' : TT} (h : PW X e t) (k : ∀ σ H Q, t' σ H Q → t σ H Q) : PW X e t' := ⟨fun wh pins s σ H Q I q => h.run wh pins s σ H Q I (k σ H Q q)⟩
theorem pa_imp {t t' : TA} (h : PA X es t) (k : ∀ σ H Q, t' σ H Q → t σ H Q) : PA X es t' := ⟨fun pos pins s σ H Q I q => h.run pos pins s σ H Q I (k σ H Q q)⟩
theorem pe_never : PE X e (fun _ _ _ => False) := ⟨fun _ _ _ _ _ _ h => h.elim⟩
theorem pt_never : PT X e (fun _ _ _ => False) := ⟨fun _ _ _ _ _ _ h => h.elim⟩
theorem pw_never : PW X e (fun _ _ _ => False) := ⟨fun _ _ _ _ _ _ _ h => h.elim⟩

/-! ### names, constants -/
theorem pd_v (i : Nat) {x : Str} {d : Dx} (hΓ : Γ[i]? = some (some (.d d)) := by rfl) (hN : X.N[i]? = some x := by rfl) (hv : Vis X.env.scope x := by first | exact Or.inl rfl | exact Or.inr (Or.inl rfl) | exact Or.inr (Or.inr rfl))
    (hd : (x == ("__debug__" : Str)) = false := by decide) (hcd : (x == ("__classdict__" : Str)) = false := by decide) : PD X F Γ (.Name x pos) d :=
  pe_imp (pe_var (i := i) hN hv hd hcd) fun σ H Q ⟨G, st, k⟩ => let ⟨v, h1, h2⟩ := st.sl i _ hΓ; ⟨v, h1, k v G H (.refl st.same) h2⟩
theorem pd_int {i : Int} {j : Nat} : PD X F Γ (.Constant (.int i) j pos) (.int i) := pe_imp pe_int fun σ H Q ⟨G, st, k⟩ => k _ G H (.refl st.same) (.int i)
theorem pd_str {x : Str} {j : Nat} : PD X F Γ (.Constant (.str x) j pos) (.str x) := pe_imp pe_str fun σ H Q ⟨G, st, k⟩ => k _ G H (.refl st.same) (.str x)
theorem pd_bl {y : Bool} {j : Nat} : PD X F Γ (.Constant (.bool y) j pos) (.bl y) := pe_imp pe_bl fun σ H Q ⟨G, st, k⟩ => k _ G H (.refl st.same) (.bl y)
theorem pd_non {j : Nat} : PD X F Γ (.Constant .none j pos) .non := pe_imp pe_non fun σ H Q ⟨G, st, k⟩ => k _ G H (.refl st.same) .non
theorem pd_glob {x : Str} {v : V} {u : Value} {d : Dx} (hm : X.mg x = some u) (r : RelV v u) (hd : ∀ G, DX X.K F.C G v d) (hg : Gl X x := by rfl) (hdb : (x == ("__debug__" : Str)) = false := by decide) : PD X F Γ (.Name x pos) d :=
  pe_imp (pe_glob hg hm r hdb) fun σ H Q ⟨G, st, k⟩ => k _ G H (.refl st.same) (hd G)

/-! ### two operands -/
theorem op_lift {K : PySem.W.Frag} {r : R2} (hr : ∀ x y G H (Q : VK), DX K F.C G x da → DX K F.C G y db → Same G H → (∀ v G' H', Ext4 G H G' H' → DX K F.C G' v d → Q v H') → r x y H Q) :
    ∀ σ H Q, tD K F Γ d σ H Q → tOp r (tD K F Γ da) (tD K F Γ db) σ H Q := fun σ H Q ⟨G, st, k⟩ =>
  ⟨G, st, fun x G1 H1 e1 dx => ⟨G1, st.step e1, fun y G2 H2 e2 dy => hr x y G2 H2 Q (dx.mono e2.g) dy e2.v fun v G3 H3 e3 dv => k v G3 H3 ((e1.trans e2).trans e3) dv⟩⟩
theorem pd_op {op : Operator} {r : R2} (ho : OpR X (binaryOp op) r) (ha : PD X F Γ a da) (hb : PD X F Γ b db)
    (hr : ∀ x y G H (Q : VK), DX X.K F.C G x da → DX X.K F.C G y db → Same G H → (∀ v G' H', Ext4 G H G' H' → DX X.K F.C G' v d → Q v H') → r x y H Q) : PD X F Γ (.BinOp a op b pos) d :=
  pe_imp (pe_op ho ha hb) (op_lift hr)
theorem pd_cmp {op : CmpOp} {r : R2} (ho : OpR X (compareOp op) r) (hm : behindInMarks op b = false) (ha : PD X F Γ a da) (hb : PD X F Γ b db)
    (hr : ∀ x y G H (Q : VK), DX X.K F.C G x da → DX X.K F.C G y db → Same G H → (∀ v G' H', Ext4 G H G' H' → DX X.K F.C G' v d → Q v H') → r x y H Q) : PD X F Γ (.Compare a [op] [b] pos) d :=
  pe_imp (pe_cmpR ho ha hb hm) (op_lift hr)
theorem td_cmp {op : CmpOp} {r : R2} {k : Bool} (ho : OpR X (compareOp op) r) (hm : behindInMarks op b = false) (ha : PD X F Γ a da) (hb : PD X F Γ b db)
    (hr : ∀ x y G H (Q : VK), DX X.K F.C G x da → DX X.K F.C G y db → Same G H → (∀ v G' H', Ext4 G H G' H' → DX X.K F.C G' v (.bl k) → Q v H') → r x y H Q) : TD X F Γ (.Compare a [op] [b] pos) k :=
  pt_imp (pt_cmpR ho ha hb hm) fun σ H Q ⟨G, st, q⟩ => op_lift (Γ := Γ) hr σ H _ ⟨G, st, fun v G' H' e dv => by cases dv; exact ⟨k, rfl, q G' H' e⟩⟩
/-- two ints, the heap as it is -/
theorem r_ints {K : PySem.W.Frag} {i j : Int} {g : Int → Int → V} {C : Int → Int → Prop} (hC : C i j) (hg : ∀ G, DX K F.C G (g i j) d) :
    ∀ x y G H (Q : VK), DX K F.C G x (.int i) → DX K F.C G y (.int j) → Same G H → (∀ v G' H', Ext4 G H G' H' → DX K F.C G' v d → Q v H') → rI C g x y H Q := fun x y G H Q hx hy s k => by
  cases hx
  cases hy
  exact ⟨i, j, rfl, rfl, hC, k _ G H (.refl s) (hg G)⟩
theorem r_ints0 {K : PySem.W.Frag} {i j : Int} {g : Int → Int → V} (hg : ∀ G, DX K F.C G (g i j) d) :
    ∀ x y G H (Q : VK), DX K F.C G x (.int i) → DX K F.C G y (.int j) → Same G H → (∀ v G' H', Ext4 G H G' H' → DX K F.C G' v d → Q v H') → rI0 g x y H Q := fun x y G H Q hx hy s k => by
  cases hx
  cases hy
  exact ⟨i, j, rfl, rfl, k _ G H (.refl s) (hg G)⟩
variable {i j k : Int}
theorem pd_add (ha : PD X F Γ a (.int i)) (hb : PD X F Γ b (.int j)) : PD X F Γ (.BinOp a .Add b pos) (.int (i + j)) := pd_op op_add ha hb (r_ints0 fun _ => .int _)
theorem pd_sub (ha : PD X F Γ a (.int i)) (hb : PD X F Γ b (.int j)) : PD X F Γ (.BinOp a .Sub b pos) (.int (i - j)) := pd_op op_sub ha hb (r_ints0 fun _ => .int _)
theorem pd_mul (ha : PD X F Γ a (.int i)) (hb : PD X F Γ b (.int j)) (h : CMul i j) : PD X F Γ (.BinOp a .Mult b pos) (.int (i * j)) := pd_op op_mul ha hb (r_ints h fun _ => .int _)
theorem pd_fdiv (ha : PD X F Γ a (.int i)) (hb : PD X F Γ b (.int j)) (h : 0 < j ∧ j < 1073741824) : PD X F Γ (.BinOp a .FloorDiv b pos) (.int (i / j)) := pd_op op_fdiv ha hb (r_ints (C := CDiv) h fun _ => .int _)
theorem pd_mod (ha : PD X F Γ a (.int i)) (hb : PD X F Γ b (.int j)) (h : 0 < j) : PD X F Γ (.BinOp a .Mod b pos) (.int (i % j)) := pd_op op_mod ha hb (r_ints (C := fun _ j => 0 < j) h fun _ => .int _)
theorem pd_lt (ha : PD X F Γ a (.int i)) (hb : PD X F Γ b (.int j)) : PD X F Γ (.Compare a [.Lt] [b] pos) (.bl (decide (i < j))) := pd_cmp op_lt (nomark _) ha hb (r_ints0 fun _ => .bl _)
theorem td_lt (ha : PD X F Γ a (.int i)) (hb : PD X F Γ b (.int j)) : TD X F Γ (.Compare a [.Lt] [b] pos) ((decide (i < j))) := td_cmp op_lt (nomark _) ha hb (r_ints0 fun _ => .bl _)
theorem pd_le (ha : PD X F Γ a (.int i)) (hb : PD X F Γ b (.int j)) : PD X F Γ (.Compare a [.LtE] [b] pos) (.bl (decide (i ≤ j))) := pd_cmp op_le (nomark _) ha hb (r_ints0 fun _ => .bl _)
theorem td_le (ha : PD X F Γ a (.int i)) (hb : PD X F Γ b (.int j)) : TD X F Γ (.Compare a [.LtE] [b] pos) ((decide (i ≤ j))) := td_cmp op_le (nomark _) ha hb (r_ints0 fun _ => .bl _)
theorem pd_gt (ha : PD X F Γ a (.int i)) (hb : PD X F Γ b (.int j)) : PD X F Γ (.Compare a [.Gt] [b] pos) (.bl (decide (j < i))) := pd_cmp op_gt (nomark _) ha hb (r_ints0 fun _ => .bl _)
theorem td_gt (ha : PD X F Γ a (.int i)) (hb : PD X F Γ b (.int j)) : TD X F Γ (.Compare a [.Gt] [b] pos) ((decide (j < i))) := td_cmp op_gt (nomark _) ha hb (r_ints0 fun _ => .bl _)
theorem pd_ge (ha : PD X F Γ a (.int i)) (hb : PD X F Γ b (.int j)) : PD X F Γ (.Compare a [.GtE] [b] pos) (.bl (decide (j ≤ i))) := pd_cmp op_ge (nomark _) ha hb (r_ints0 fun _ => .bl _)
theorem td_ge (ha : PD X F Γ a (.int i)) (hb : PD X F Γ b (.int j)) : TD X F Γ (.Compare a [.GtE] [b] pos) ((decide (j ≤ i))) := td_cmp op_ge (nomark _) ha hb (r_ints0 fun _ => .bl _)
/-- what is no object -/
def Dx.sc : Dx → Option V
  | .non => some .non
  | .bl b => some (.bl b)
  | .int i => some (.int i)
  | .str x => some (.str x)
  | _ => none
theorem DX.sc {K : PySem.W.Frag} {C : Addr} {G : Hp} {v x : V} {d : Dx} (h : DX K C G v d) (e : d.sc = some x) : v = x := by
  cases h <;> first | (cases e; rfl) | (cases e)
theorem pd_eq {x y : V} (ha : PD X F Γ a da) (hb : PD X F Γ b db) (sa : da.sc = some x := by rfl) (sb : db.sc = some y := by rfl) (hs : scal x y = true := by rfl) : PD X F Γ (.Compare a [.Eq] [b] pos) (.bl (decide (x = y))) :=
  pd_cmp op_eq (nomark _) ha hb fun u v G H Q hx hy s k => by
    rw [hx.sc sa, hy.sc sb]
    exact ⟨hs, k _ G H (.refl s) (.bl _)⟩
theorem td_eq {x y : V} (ha : PD X F Γ a da) (hb : PD X F Γ b db) (sa : da.sc = some x := by rfl) (sb : db.sc = some y := by rfl) (hs : scal x y = true := by rfl) : TD X F Γ (.Compare a [.Eq] [b] pos) ((decide (x = y))) :=
  td_cmp op_eq (nomark _) ha hb fun u v G H Q hx hy s k => by
    rw [hx.sc sa, hy.sc sb]
    exact ⟨hs, k _ G H (.refl s) (.bl _)⟩
theorem pd_ne {x y : V} (ha : PD X F Γ a da) (hb : PD X F Γ b db) (sa : da.sc = some x := by rfl) (sb : db.sc = some y := by rfl) (hs : scal x y = true := by rfl) : PD X F Γ (.Compare a [.NotEq] [b] pos) (.bl (!decide (x = y))) :=
  pd_cmp op_ne (nomark _) ha hb fun u v G H Q hx hy s k => by
    rw [hx.sc sa, hy.sc sb]
    exact ⟨hs, k _ G H (.refl s) (.bl _)⟩
theorem td_ne {x y : V} (ha : PD X F Γ a da) (hb : PD X F Γ b db) (sa : da.sc = some x := by rfl) (sb : db.sc = some y := by rfl) (hs : scal x y = true := by rfl) : TD X F Γ (.Compare a [.NotEq] [b] pos) ((!decide (x = y))) :=
  td_cmp op_ne (nomark _) ha hb fun u v G H Q hx hy s k => by
    rw [hx.sc sa, hy.sc sb]
    exact ⟨hs, k _ G H (.refl s) (.bl _)⟩
def Dx.isNon : Dx → Bool
  | .non => true
  | .raw v => decide (v = .non)
  | _ => false
theorem DX.isNon {K : PySem.W.Frag} {C : Addr} {G : Hp} {v : V} {d : Dx} (h : DX K C G v d) : decide (v = .non) = d.isNon := by
  cases h <;> rfl
theorem pd_isN {j : Nat} {pos' : Pos} (ha : PD X F Γ a da) : PD X F Γ (.Compare a [.Is] [.Constant .none j pos'] pos) (.bl da.isNon) :=
  pd_cmp op_isN (nomark _) ha (pd_non (F := F) (Γ := Γ)) fun u v G H Q hx hy s k => by
    cases hy
    refine ⟨rfl, k _ G H (.refl s) ?_⟩
    rw [hx.isNon]
    exact .bl _
theorem td_isN {j : Nat} {pos' : Pos} (ha : PD X F Γ a da) : TD X F Γ (.Compare a [.Is] [.Constant .none j pos'] pos) (da.isNon) :=
  td_cmp op_isN (nomark _) ha (pd_non (F := F) (Γ := Γ)) fun u v G H Q hx hy s k => by
    cases hy
    refine ⟨rfl, k _ G H (.refl s) ?_⟩
    rw [hx.isNon]
    exact .bl _
theorem pd_notN {j : Nat} {pos' : Pos} (ha : PD X F Γ a da) : PD X F Γ (.Compare a [.IsNot] [.Constant .none j pos'] pos) (.bl (!da.isNon)) :=
  pd_cmp op_notN (nomark _) ha (pd_non (F := F) (Γ := Γ)) fun u v G H Q hx hy s k => by
    cases hy
    refine ⟨rfl, k _ G H (.refl s) ?_⟩
    rw [hx.isNon]
    exact .bl _
theorem td_notN {j : Nat} {pos' : Pos} (ha : PD X F Γ a da) : TD X F Γ (.Compare a [.IsNot] [.Constant .none j pos'] pos) ((!da.isNon)) :=
  td_cmp op_notN (nomark _) ha (pd_non (F := F) (Γ := Γ)) fun u v G H Q hx hy s k => by
    cases hy
    refine ⟨rfl, k _ G H (.refl s) ?_⟩
    rw [hx.isNon]
    exact .bl _
theorem pd_chainLe (ha : PD X F Γ a (.int i)) (hb : PD X F Γ b (.int j)) (hc : PD X F Γ c (.int k)) (hm : lastMarks [.LtE, .LtE] [b, c] = false := by with_unfolding_all rfl) :
    PD X F Γ (.Compare a [.LtE, .LtE] [b, c] pos) (.bl (decide (i ≤ j) && decide (j ≤ k))) :=
  pe_imp (pe_chain op_le op_le ha hb hc hm) fun σ H Q ⟨G, st, q⟩ => ⟨G, st, fun x G1 H1 e1 dx => ⟨G1, st.step e1, fun y G2 H2 e2 dy => by
    cases dx
    cases dy
    refine ⟨i, j, rfl, rfl, _, rfl, ?_⟩
    by_cases h : i ≤ j
    · rw [decide_eq_true h]
      refine iteT ⟨G2, (st.step e1).step e2, fun z G3 H3 e3 dz => ?_⟩
      cases dz
      refine ⟨j, k, rfl, rfl, q _ G3 H3 ((e1.trans e2).trans e3) ?_⟩
      rw [decide_eq_true h]
      exact .bl _
    · rw [decide_eq_false h]
      refine iteF (q _ G2 H2 (e1.trans e2) ?_)
      rw [decide_eq_false h]
      exact .bl _⟩⟩
/-! in, not in -/
theorem inV_strs (x : Str) : ∀ ns : List Str, inV (.str x) (ns.map V.str) = ns.contains x
  | [] => rfl
  | y :: r => by
    have ih := inV_strs x r
    unfold inV at ih ⊢
    rw [List.map_cons, List.any_cons, ih, List.contains_cons]
    show ((y == x) || _) = ((x == y) || _)
    rw [show (y == x) = (x == y) from Bool.eq_iff_iff.mpr ⟨fun h => beq_iff_eq.mpr (beq_iff_eq.mp h).symm, fun h => beq_iff_eq.mpr (beq_iff_eq.mp h).symm⟩]
theorem inV_ints (x : Int) : ∀ ns : List Int, inV (.int x) (ns.map V.int) = ns.contains x
  | [] => rfl
  | y :: r => by
    have ih := inV_ints x r
    unfold inV at ih ⊢
    rw [List.map_cons, List.any_cons, ih, List.contains_cons]
    show ((y == x) || _) = ((x == y) || _)
    rw [show (y == x) = (x == y) from Bool.eq_iff_iff.mpr ⟨fun h => beq_iff_eq.mpr (beq_iff_eq.mp h).symm, fun h => beq_iff_eq.mpr (beq_iff_eq.mp h).symm⟩]
theorem flat_strs : ∀ ns : List Str, (ns.map V.str).all flatV = true
  | [] => rfl
  | _ :: r => flat_strs r
theorem flat_ints : ∀ ns : List Int, (ns.map V.int).all flatV = true
  | [] => rfl
  | _ :: r => flat_ints r
/-- a list or a tuple of these -/
def Sq (d : Dx) (ds : List Dx) : Prop := d = .tup ds ∨ d = .lst ds
theorem DX.sq {K : PySem.W.Frag} {C : Addr} {G H : Hp} {v : V} {d : Dx} {ds : List Dx} (h : DX K C G v d) (e : Sq d ds) (s : Same G H) : ∃ p xs, v = .ref p ∧ (SqL K H p xs ∨ SqT K H p xs) ∧ DXs K C G xs ds := by
  rcases e with rfl | rfl
  · cases h with
    | tup h1 h2 => exact ⟨_, _, rfl, .inr (same_tup s h1), h2⟩
  · cases h with
    | lst h1 h2 => exact ⟨_, _, rfl, .inl (SqL.of (s _ _ h1)), h2⟩
theorem pd_inS {x : Str} {ns : List Str} (ha : PD X F Γ a (.str x)) (hb : PD X F Γ b db) (e : Sq db (ns.map Dx.str)) (hm : behindInMarks .In b = false := by with_unfolding_all rfl) : PD X F Γ (.Compare a [.In] [b] pos) (.bl (ns.contains x)) :=
  pd_cmp op_in_seq hm ha hb fun u v G H Q hx hy s k => by
    cases hx
    obtain ⟨p, xs, rfl, hq, hd⟩ := hy.sq e s
    cases hd.strs
    refine ⟨p, _, rfl, hq, rfl, flat_strs _, ?_⟩
    rw [inV_strs]
    exact k _ G H (.refl s) (.bl _)
theorem td_inS {x : Str} {ns : List Str} (ha : PD X F Γ a (.str x)) (hb : PD X F Γ b db) (e : Sq db (ns.map Dx.str)) (hm : behindInMarks .In b = false := by with_unfolding_all rfl) : TD X F Γ (.Compare a [.In] [b] pos) ((ns.contains x)) :=
  td_cmp op_in_seq hm ha hb fun u v G H Q hx hy s k => by
    cases hx
    obtain ⟨p, xs, rfl, hq, hd⟩ := hy.sq e s
    cases hd.strs
    refine ⟨p, _, rfl, hq, rfl, flat_strs _, ?_⟩
    rw [inV_strs]
    exact k _ G H (.refl s) (.bl _)
theorem pd_notInS {x : Str} {ns : List Str} (ha : PD X F Γ a (.str x)) (hb : PD X F Γ b db) (e : Sq db (ns.map Dx.str)) (hm : behindInMarks .NotIn b = false := by with_unfolding_all rfl) : PD X F Γ (.Compare a [.NotIn] [b] pos) (.bl (!ns.contains x)) :=
  pd_cmp op_notIn_seq hm ha hb fun u v G H Q hx hy s k => by
    cases hx
    obtain ⟨p, xs, rfl, hq, hd⟩ := hy.sq e s
    cases hd.strs
    refine ⟨p, _, rfl, hq, rfl, flat_strs _, ?_⟩
    rw [inV_strs]
    exact k _ G H (.refl s) (.bl _)
theorem td_notInS {x : Str} {ns : List Str} (ha : PD X F Γ a (.str x)) (hb : PD X F Γ b db) (e : Sq db (ns.map Dx.str)) (hm : behindInMarks .NotIn b = false := by with_unfolding_all rfl) : TD X F Γ (.Compare a [.NotIn] [b] pos) ((!ns.contains x)) :=
  td_cmp op_notIn_seq hm ha hb fun u v G H Q hx hy s k => by
    cases hx
    obtain ⟨p, xs, rfl, hq, hd⟩ := hy.sq e s
    cases hd.strs
    refine ⟨p, _, rfl, hq, rfl, flat_strs _, ?_⟩
    rw [inV_strs]
    exact k _ G H (.refl s) (.bl _)
theorem pd_notInI {x : Int} {ns : List Int} (ha : PD X F Γ a (.int x)) (hb : PD X F Γ b db) (e : Sq db (ns.map Dx.int)) (hm : behindInMarks .NotIn b = false := by with_unfolding_all rfl) : PD X F Γ (.Compare a [.NotIn] [b] pos) (.bl (!ns.contains x)) :=
  pd_cmp op_notIn_seq hm ha hb fun u v G H Q hx hy s k => by
    cases hx
    obtain ⟨p, xs, rfl, hq, hd⟩ := hy.sq e s
    cases hd.ints
    refine ⟨p, _, rfl, hq, rfl, flat_ints _, ?_⟩
    rw [inV_ints]
    exact k _ G H (.refl s) (.bl _)
theorem td_notInI {x : Int} {ns : List Int} (ha : PD X F Γ a (.int x)) (hb : PD X F Γ b db) (e : Sq db (ns.map Dx.int)) (hm : behindInMarks .NotIn b = false := by with_unfolding_all rfl) : TD X F Γ (.Compare a [.NotIn] [b] pos) ((!ns.contains x)) :=
  td_cmp op_notIn_seq hm ha hb fun u v G H Q hx hy s k => by
    cases hx
    obtain ⟨p, xs, rfl, hq, hd⟩ := hy.sq e s
    cases hd.ints
    refine ⟨p, _, rfl, hq, rfl, flat_ints _, ?_⟩
    rw [inV_ints]
    exact k _ G H (.refl s) (.bl _)
theorem pd_inRng {x lo hi : Int} (ha : PD X F Γ a (.int x)) (hb : PD X F Γ b (.rng lo hi)) (hm : behindInMarks .In b = false := by with_unfolding_all rfl) : PD X F Γ (.Compare a [.In] [b] pos) (.bl (decide (lo ≤ x ∧ x < hi))) :=
  pd_cmp op_in_rng hm ha hb fun u v G H Q hx hy s k => by
    cases hx
    cases hy with
    | rng h => exact ⟨x, _, lo, hi, rfl, rfl, s _ _ h, k _ G H (.refl s) (.bl _)⟩
theorem td_inRng {x lo hi : Int} (ha : PD X F Γ a (.int x)) (hb : PD X F Γ b (.rng lo hi)) (hm : behindInMarks .In b = false := by with_unfolding_all rfl) : TD X F Γ (.Compare a [.In] [b] pos) ((decide (lo ≤ x ∧ x < hi))) :=
  td_cmp op_in_rng hm ha hb fun u v G H Q hx hy s k => by
    cases hx
    cases hy with
    | rng h => exact ⟨x, _, lo, hi, rfl, rfl, s _ _ h, k _ G H (.refl s) (.bl _)⟩

/-! ### tests -/
theorem td_val {k : Bool} (ha : PD X F Γ a (.bl k)) (he : ∀ whole, isTrue a X.env whole = (do let v ← whole; standAt a.pos; holding [v] (truthy v)) := by intro _; rfl) : TD X F Γ a k :=
  pt_imp (pt_val ha he) fun σ H Q ⟨G, st, q⟩ => ⟨G, st, fun v G' H' e dv => by cases dv; exact ⟨k, rfl, q G' H' e⟩⟩
theorem td_not {k : Bool} (ha : TD X F Γ a k) : TD X F Γ (.UnaryOp .Not a pos) (!k) := pt_imp (pt_not ha) fun σ H Q ⟨G, st, q⟩ => ⟨G, st, fun G' H' e => q G' H' e⟩
variable {rest : List Expr} {x y : Bool}
theorem tw_and1 (ha : TD X F Γ a x) : TW X F Γ (.BoolOp .And [a] pos) x := pw_and1 ha
theorem tw_or1 (ha : TD X F Γ a x) : TW X F Γ (.BoolOp .Or [a] pos) x := pw_or1 ha
theorem tw_and (ha : TD X F Γ a x) (hb : x = true → TW X F Γ (.BoolOp .And (b :: rest) pos) y) : TW X F Γ (.BoolOp .And (a :: b :: rest) pos) (x && y) := by
  cases x with
  | true => exact pw_imp (pw_and ha (hb rfl)) fun σ H Q ⟨G, st, q⟩ => ⟨G, st, fun G' H' e => iteT ⟨G', st.step e, fun G2 H2 e2 => q G2 H2 (e.trans e2)⟩⟩
  | false => exact pw_imp (pw_and ha pw_never) fun σ H Q ⟨G, st, q⟩ => ⟨G, st, fun G' H' e => iteF (q G' H' e)⟩
theorem tw_or (ha : TD X F Γ a x) (hb : x = false → TW X F Γ (.BoolOp .Or (b :: rest) pos) y) : TW X F Γ (.BoolOp .Or (a :: b :: rest) pos) (x || y) := by
  cases x with
  | false => exact pw_imp (pw_or ha (hb rfl)) fun σ H Q ⟨G, st, q⟩ => ⟨G, st, fun G' H' e => iteF ⟨G', st.step e, fun G2 H2 e2 => q G2 H2 (e.trans e2)⟩⟩
  | true => exact pw_imp (pw_or ha pw_never) fun σ H Q ⟨G, st, q⟩ => ⟨G, st, fun G' H' e => iteT (q G' H' e)⟩
theorem td_w (h : TW X F Γ a x) : TD X F Γ a x := h.pt

/-! ### and, or, not, if as values -/
theorem pd_one {op} (h : PD X F Γ a d) : PD X F Γ (.BoolOp op [a] pos) d := pe_one h
theorem pd_and (ha : PD X F Γ a (.bl x)) (hb : x = true → PD X F Γ (.BoolOp .And (b :: rest) pos) (.bl y)) : PD X F Γ (.BoolOp .And (a :: b :: rest) pos) (.bl (x && y)) := by
  cases x with
  | true => exact pe_imp (pe_and ha (hb rfl)) fun σ H Q ⟨G, st, q⟩ => ⟨G, st, fun v G' H' e dv => by cases dv; exact ⟨true, rfl, iteT ⟨G', st.step e, fun v2 G2 H2 e2 dv2 => q v2 G2 H2 (e.trans e2) dv2⟩⟩⟩
  | false => exact pe_imp (pe_and ha pe_never) fun σ H Q ⟨G, st, q⟩ => ⟨G, st, fun v G' H' e dv => by cases dv; exact ⟨false, rfl, iteF (q _ G' H' e (.bl _))⟩⟩
theorem pd_or (ha : PD X F Γ a (.bl x)) (hb : x = false → PD X F Γ (.BoolOp .Or (b :: rest) pos) (.bl y)) : PD X F Γ (.BoolOp .Or (a :: b :: rest) pos) (.bl (x || y)) := by
  cases x with
  | false => exact pe_imp (pe_or ha (hb rfl)) fun σ H Q ⟨G, st, q⟩ => ⟨G, st, fun v G' H' e dv => by cases dv; exact ⟨false, rfl, iteF ⟨G', st.step e, fun v2 G2 H2 e2 dv2 => q v2 G2 H2 (e.trans e2) dv2⟩⟩⟩
  | true => exact pe_imp (pe_or ha pe_never) fun σ H Q ⟨G, st, q⟩ => ⟨G, st, fun v G' H' e dv => by cases dv; exact ⟨true, rfl, iteT (q _ G' H' e (.bl _))⟩⟩
theorem pd_not (ha : PD X F Γ a (.bl x)) : PD X F Γ (.UnaryOp .Not a pos) (.bl (!x)) := pe_imp (pe_not ha) fun σ H Q ⟨G, st, q⟩ => ⟨G, st, fun v G' H' e dv => by cases dv; exact ⟨x, rfl, q _ G' H' e (.bl _)⟩⟩
theorem pd_if (hc : TD X F Γ c x) (ha : x = true → PD X F Γ a d) (hb : x = false → PD X F Γ b d) : PD X F Γ (.IfExp c a b pos) d := by
  cases x with
  | true => exact pe_imp (pe_ifExp hc (ha rfl) pe_never) fun σ H Q ⟨G, st, q⟩ => ⟨G, st, fun G' H' e => iteT ⟨G', st.step e, fun v2 G2 H2 e2 dv2 => q v2 G2 H2 (e.trans e2) dv2⟩⟩
  | false => exact pe_imp (pe_ifExp hc pe_never (hb rfl)) fun σ H Q ⟨G, st, q⟩ => ⟨G, st, fun G' H' e => iteF ⟨G', st.step e, fun v2 G2 H2 e2 dv2 => q v2 G2 H2 (e.trans e2) dv2⟩⟩

/-! ### argument lists, displays -/
theorem ad_nil : AD X F Γ [] [] := pa_imp pa_nil fun σ H Q ⟨G, st, q⟩ => q [] G H (.refl st.same) .nil
theorem ad_cons (ha : PD X F Γ a d) (hr : AD X F Γ es ds) (hs : starEach (a :: es) X.env = (false, eval a X.env) :: starEach es X.env := by rfl) : AD X F Γ (a :: es) (d :: ds) :=
  pa_imp (pa_cons ha hr hs) fun σ H Q ⟨G, st, q⟩ => ⟨G, st, fun v G1 H1 e1 dv => ⟨G1, st.step e1, fun vs G2 H2 e2 dvs => q _ G2 H2 (e1.trans e2) (.cons (dv.mono e2.g) dvs)⟩⟩
theorem sz1000 {n : Nat} (h : n ≤ 1000) : n ≤ sizeLine := Nat.le_trans h (by decide)
theorem pd_tup {x1} (h : AD X F Γ es ds) (hl : Nat.ble ds.length 1000 = true := by rfl) : PD X F Γ (.Tuple es x1 pos) (.tup ds) :=
  pe_imp (pe_tup h) fun σ H Q ⟨G, st, q⟩ => ⟨G, st, fun vs G1 H1 e1 dvs => ⟨sz1000 (by rw [dvs.length]; exact Nat.le_of_ble_eq_true hl), fun p hp =>
    have e2 : Ext4 G1 H1 (upd G1 p (.tup vs)) (upd H1 p (.tup vs)) := .new e1.v hp
    q _ _ _ (e1.trans e2) (.tup (SqT.of upd_same) (dvs.mono e2.g))⟩⟩
theorem pd_lst (h : AD X F Γ es ds) (hl : Nat.ble ds.length 1000 = true := by rfl) : PD X F Γ (.List es pos) (.lst ds) :=
  pe_imp (pe_lst h) fun σ H Q ⟨G, st, q⟩ => ⟨G, st, fun vs G1 H1 e1 dvs => ⟨sz1000 (by rw [dvs.length]; exact Nat.le_of_ble_eq_true hl), fun p hp =>
    have e2 : Ext4 G1 H1 (upd G1 p (.lst vs)) (upd H1 p (.lst vs)) := .new e1.v hp
    q _ _ _ (e1.trans e2) (.lst upd_same (dvs.mono e2.g))⟩⟩
theorem pd_dic : PD X F Γ (.Dict [] [] pos) .dic :=
  pe_imp pe_dnewK fun σ H Q ⟨G, st, q⟩ => fun p hp => q _ _ _ (.new (o := .dK []) st.same hp) (.dic upd_same)
end
end Lap
set_option maxHeartbeats 4000000
/-! The data layer: calls, subscripts, slices, attributes, isinstance. -/
namespace Lap
open PySem PySem.Spec L2
open PyProof.Rows hiding St
section
variable {X : Cx} {F : Fm} {Γ : Gm} {a b c e : Expr} {es : List Expr} {p pos : Pos} {x : Str} {da db d : Dx} {ds : List Dx}

/-! ### built-in functions and types by name -/
theorem pd_b {id : String} {r : List V → Hp → VK → Prop} (hc : CallR X (.builtin id) r) (hm : X.mg x = none) (hv : bootBuiltins x = some (.builtin id)) (ha : AD X F Γ (e :: es) ds)
    (hr : ∀ vs G H (Q : VK), DXs X.K F.C G vs ds → Same G H → (∀ v G' H', Ext4 G H G' H' → DX X.K F.C G' v d → Q v H') → r vs H Q) (hg : Gl X x := by rfl)
    (hn : x ≠ "__name__" := by decide) (hdb : (x == ("__debug__" : Str)) = false := by decide)
    (he : starEach (e :: es) X.env = (false, eval e X.env) :: starEach es X.env := by rfl) (hpl : (backTo pos (starEach es X.env)).any (·.1) = false := by rfl) : PD X F Γ (.Call (.Name x p) (e :: es) [] pos) d :=
  pe_imp (pe_callB hc hg hm hv ha hn hdb he hpl) fun σ H Q ⟨G, st, k⟩ => ⟨G, st, fun vs G1 H1 e1 dvs => hr vs G1 H1 Q dvs e1.v fun v G2 H2 e2 dv => k v G2 H2 (e1.trans e2) dv⟩
theorem pd_ty {T : String} {r : List V → Hp → VK → Prop} (hc : CallR X (.type T) r) (hm : X.mg x = none) (hv : bootBuiltins x = some (.type T)) (ha : AD X F Γ (e :: es) ds)
    (hr : ∀ vs G H (Q : VK), DXs X.K F.C G vs ds → Same G H → (∀ v G' H', Ext4 G H G' H' → DX X.K F.C G' v d → Q v H') → r vs H Q) (hg : Gl X x := by rfl)
    (hn : x ≠ "__name__" := by decide) (hdb : (x == ("__debug__" : Str)) = false := by decide)
    (he : starEach (e :: es) X.env = (false, eval e X.env) :: starEach es X.env := by rfl) (hpl : (backTo pos (starEach es X.env)).any (·.1) = false := by rfl) : PD X F Γ (.Call (.Name x p) (e :: es) [] pos) d :=
  pe_imp (pe_callTy hc hg hm hv ha hn hdb he hpl) fun σ H Q ⟨G, st, k⟩ => ⟨G, st, fun vs G1 H1 e1 dvs => hr vs G1 H1 Q dvs e1.v fun v G2 H2 e2 dv => k v G2 H2 (e1.trans e2) dv⟩
section
variable (hg : Gl X "len" := by rfl)
/-- how many items -/
def Dx.sz : Dx → Option Nat
  | .tup l => some l.length
  | .lst l => some l.length
  | .scr l => some l.length
  | _ => none
theorem pd_len {n : Nat} (hm : X.mg "len" = none) (ha : PD X F Γ a da) (hn : da.sz = some n) (hg : Gl X "len" := by rfl) (he : starEach [a] X.env = (false, eval a X.env) :: starEach [] X.env := by rfl) : PD X F Γ (.Call (.Name "len" p) [a] [] pos) (.int n) :=
  pd_b call_len hm PySem.boot_len (ad_cons ha ad_nil he) (fun vs G H Q hd s k => by
    cases hd with
    | cons h1 h2 =>
      cases h2
      cases h1 with
      | tup q r => cases hn; exact ⟨_, _, rfl, .inr ⟨_, same_tup s q, r.length.symm⟩, k _ G H (.refl s) (.int _)⟩
      | lst q r => cases hn; exact ⟨_, _, rfl, .inl ⟨_, SqL.of (s _ _ q), r.length.symm⟩, k _ G H (.refl s) (.int _)⟩
      | scr q => cases hn; exact ⟨_, _, rfl, .inl ⟨_, s.seq q, (List.length_map ..).symm⟩, k _ G H (.refl s) (.int _)⟩
      | _ => cases hn) hg (by decide) (by decide) he rfl
end
theorem pd_all {bs : List Bool} (hm : X.mg "all" = none) (hc : X.calm = true) (ha : PD X F Γ a (.lst (bs.map Dx.bl))) (hg : Gl X "all" := by rfl) (he : starEach [a] X.env = (false, eval a X.env) :: starEach [] X.env := by rfl) :
    PD X F Γ (.Call (.Name "all" p) [a] [] pos) (.bl (bs.all id)) :=
  pd_b (cr_all hc) hm PyProof.Rows.boot_all (ad_cons ha ad_nil he) (fun vs G H Q hd s k => by
    cases hd with
    | cons h1 h2 =>
      cases h2
      cases h1 with
      | lst q r =>
        cases r.bls
        exact ⟨_, bs, rfl, SqL.of (s _ _ q), k _ G H (.refl s) (.bl _)⟩) hg (by decide) (by decide) he rfl
theorem pd_max2 {i j : Int} (hm : X.mg "max" = none) (hc : X.calm = true) (ha : PD X F Γ a (.int i)) (hb : PD X F Γ b (.int j)) (hg : Gl X "max" := by rfl) (he : starEach [a, b] X.env = (false, eval a X.env) :: starEach [b] X.env := by rfl) (he2 : starEach [b] X.env = (false, eval b X.env) :: starEach [] X.env := by rfl)
    (hpl : (backTo pos (starEach [b] X.env)).any (·.1) = false := by rfl) : PD X F Γ (.Call (.Name "max" p) [a, b] [] pos) (.int (if j > i then j else i)) :=
  pd_b (call_max2 hc) hm PyProof.Rows.boot_max (ad_cons ha (ad_cons hb ad_nil he2) he) (fun vs G H Q hd s k => by
    cases hd with
    | cons h1 h2 =>
      cases h2 with
      | cons h2 h3 =>
        cases h3
        cases h1
        cases h2
        exact ⟨_, _, rfl, k _ G H (.refl s) (.int _)⟩) hg (by decide) (by decide) he hpl
theorem pd_min2 {i j : Int} (hm : X.mg "min" = none) (hc : X.calm = true) (ha : PD X F Γ a (.int i)) (hb : PD X F Γ b (.int j)) (hg : Gl X "min" := by rfl) (he : starEach [a, b] X.env = (false, eval a X.env) :: starEach [b] X.env := by rfl) (he2 : starEach [b] X.env = (false, eval b X.env) :: starEach [] X.env := by rfl)
    (hpl : (backTo pos (starEach [b] X.env)).any (·.1) = false := by rfl) : PD X F Γ (.Call (.Name "min" p) [a, b] [] pos) (.int (if j < i then j else i)) :=
  pd_b (call_min2 hc) hm PyProof.Rows.boot_min (ad_cons ha (ad_cons hb ad_nil he2) he) (fun vs G H Q hd s k => by
    cases hd with
    | cons h1 h2 =>
      cases h2 with
      | cons h2 h3 =>
        cases h3
        cases h1
        cases h2
        exact ⟨_, _, rfl, k _ G H (.refl s) (.int _)⟩) hg (by decide) (by decide) he hpl
/-- max of a list of ints; m: the greatest -/
theorem pd_maxL {ns : List Int} {m : Int} (hm : X.mg "max" = none) (hc : X.calm = true) (ha : PD X F Γ a (.lst (ns.map Dx.int))) (h0 : 0 < ns.length) (hu : ∀ k, k ∈ ns → (∀ y, y ∈ ns → y ≤ k) → k = m) (hg : Gl X "max" := by rfl) (he : starEach [a] X.env = (false, eval a X.env) :: starEach [] X.env := by rfl) :
    PD X F Γ (.Call (.Name "max" p) [a] [] pos) (.int m) :=
  pd_b (cr_max hc) hm PyProof.Rows.boot_max (ad_cons ha ad_nil he) (fun vs G H Q hd s k => by
    cases hd with
    | cons h1 h2 =>
      cases h2
      cases h1 with
      | lst q r =>
        cases r.ints
        exact ⟨_, ns, rfl, SqL.of (s _ _ q), h0, fun y h1 h2 => k _ G H (.refl s) (by rw [hu y h1 h2]; exact .int _)⟩) hg (by decide) (by decide) he rfl
theorem pd_sum {ns : List Int} (hm : X.mg "sum" = none) (hc : X.calm = true) (ha : PD X F Γ a (.lst (ns.map Dx.int))) (hg : Gl X "sum" := by rfl) (he : starEach [a] X.env = (false, eval a X.env) :: starEach [] X.env := by rfl) :
    PD X F Γ (.Call (.Name "sum" p) [a] [] pos) (.int ns.sum) :=
  pd_b (cr_sum hc) hm PyProof.Rows.boot_sum (ad_cons ha ad_nil he) (fun vs G H Q hd s k => by
    cases hd with
    | cons h1 h2 =>
      cases h2
      cases h1 with
      | lst q r =>
        cases r.ints
        exact ⟨_, ns, rfl, SqL.of (s _ _ q), k _ G H (.refl s) (.int _)⟩) hg (by decide) (by decide) he rfl
/-- int(n) of an int -/
theorem pd_intI {i : Int} (hm : X.mg "int" = none) (ha : PD X F Γ a (.int i)) (hg : Gl X "int" := by rfl) (he : starEach [a] X.env = (false, eval a X.env) :: starEach [] X.env := by rfl) : PD X F Γ (.Call (.Name "int" p) [a] [] pos) (.int i) :=
  pd_ty call_int1 hm PyProof.Rows.boot_int (ad_cons ha ad_nil he) (fun vs G H Q hd s k => by
    cases hd with
    | cons h1 h2 =>
      cases h2
      cases h1
      exact .inl ⟨_, rfl, k _ G H (.refl s) (.int _)⟩) hg (by decide) (by decide) he rfl
/-- tuple(xs) of a list -/
theorem pd_tupL (hm : X.mg "tuple" = none) (ha : PD X F Γ a (.lst ds)) (hg : Gl X "tuple" := by rfl) (he : starEach [a] X.env = (false, eval a X.env) :: starEach [] X.env := by rfl) : PD X F Γ (.Call (.Name "tuple" p) [a] [] pos) (.tup ds) :=
  pd_ty call_tuple_of hm PyProof.Rows.boot_tuple (ad_cons ha ad_nil he) (fun vs G H Q hd s k => by
    cases hd with
    | cons h1 h2 =>
      cases h2
      cases h1 with
      | @lst _ xs _ q r =>
        refine ⟨_, _, rfl, .inl ⟨SqL.of (s _ _ q), fun l hl => ?_⟩⟩
        have e : Ext4 G H (upd G l (.tup xs)) (upd H l (.tup xs)) := .new s hl
        exact k _ _ _ e (.tup (SqT.of upd_same) (r.mono e.g))) hg (by decide) (by decide) he rfl
/-- range(n) as a value -/
theorem cr_range1 : CallR X (.type "range") (fun vs H Q => ∃ j, vs = [V.int j] ∧ ∀ p, H p = none → Q (.ref p) (upd H p (.rng 0 j))) := by
  intro pins s σ H vs us Q I r h
  obtain ⟨j, rfl, q⟩ := h
  obtain ⟨u1, rfl, t, rfl⟩ := vals1 r
  refine call_range_1 ⟨.ref s.heap.objs.size, upd H s.heap.objs.size (.rng 0 j), I.laid (fun b o e => Heap.get?_push_of_some _ e) (Nat.le_refl _) ?_, rfl, q _ (I.hok.fresh (Nat.le_refl _))⟩
  exact ⟨_, t, _, Heap.get?_push_size _ rfl⟩
theorem pd_range1 {j : Int} (hm : X.mg "range" = none) (ha : PD X F Γ a (.int j)) (hg : Gl X "range" := by rfl) (he : starEach [a] X.env = (false, eval a X.env) :: starEach [] X.env := by rfl) : PD X F Γ (.Call (.Name "range" p) [a] [] pos) (.rng 0 j) :=
  pd_ty cr_range1 hm PyProof.Rows.boot_range (ad_cons ha ad_nil he) (fun vs G H Q hd s k => by
    cases hd with
    | cons h1 h2 =>
      cases h2
      cases h1
      refine ⟨j, rfl, fun l hl => ?_⟩
      exact k _ _ _ (.new (o := .rng 0 j) s hl) (.rng upd_same)) hg (by decide) (by decide) he rfl
theorem dxs_rg {K : PySem.W.Frag} {C : Addr} {G : Hp} (f : Nat → Int) : ∀ (l : List Nat), DXs K C G (l.map fun i => V.int (f i)) (l.map fun i => Dx.int (f i))
  | [] => .nil
  | _ :: r => .cons (.int _) (dxs_rg f r)
/-- list(range(n)) -/
theorem pd_listRg {j : Int} {p2 pos2 : Pos} (hm : X.mg "list" = none) (hm2 : X.mg "range" = none) (hc : X.calm = true) (ha : PD X F Γ a (.int j)) (h0 : 0 ≤ j) (h1 : j ≤ 1000) (hg : Gl X "list" := by rfl) (hg2 : Gl X "range" := by rfl)
    (na : starEach [a] X.env = (false, eval a X.env) :: starEach [] X.env := by rfl)
    (nb : starEach [(.Call (.Name "range" p2) [a] [] pos2)] X.env = (false, eval (.Call (.Name "range" p2) [a] [] pos2) X.env) :: starEach [] X.env := by rfl) :
    PD X F Γ (.Call (.Name "list" p) [.Call (.Name "range" p2) [a] [] pos2] [] pos) (.lst ((List.range j.toNat).map fun (i : Nat) => Dx.int (i : Int))) :=
  pe_imp (pe_listRg hc hg hm (prg_1 hg2 hm2 ha na) nb) fun σ H Q ⟨G, st, k⟩ => ⟨G, st, fun v G1 H1 e1 dv => by
    cases dv
    refine ⟨j, rfl, RgOk.of_le (by decide) (by omega) (by decide) h0, fun q hq => ?_⟩
    have e2 : Ext4 G1 H1 (upd G1 q (.lst (rgV 0 j))) (upd H1 q (.lst (rgV 0 j))) := .new e1.v hq
    refine k _ _ _ (e1.trans e2) (.lst upd_same ?_)
    have e : (List.range j.toNat).map (fun (i : Nat) => Dx.int (i : Int)) = (List.range j.toNat).map (fun (i : Nat) => Dx.int ((0 : Int) + (i : Int))) := List.map_congr_left fun i _ => by rw [Int.zero_add]
    rw [e]
    unfold rgV
    rw [show (j - 0 : Int) = j by omega]
    exact dxs_rg (fun (i : Nat) => (0 : Int) + (i : Int)) _⟩

/-! ### subscripts -/
theorem DXs.at {K : PySem.W.Frag} {C : Addr} {G : Hp} {vs : List V} {i : Int} (h : DXs K C G vs ds) (h0 : 0 ≤ i) (hi : ds[i.toNat]? = some d) : ∃ v, atI vs i = some v ∧ DX K C G v d := by
  obtain ⟨v, h1, h2⟩ := h.get hi
  refine ⟨v, ?_, h2⟩
  have e : i = ((i.toNat : Nat) : Int) := by omega
  rw [e]
  exact atI_nat h1
theorem pd_ix {i : Int} (ha : PD X F Γ a da) (hb : PD X F Γ b (.int i)) (hs : Sq da ds) (hi : ds[i.toNat]? = some d) (h0 : 0 ≤ i := by decide) (hp : PlainIx b := by exact fun _ _ => rfl) : PD X F Γ (.Subscript a b pos) d := by
  rcases hs with rfl | rfl
  · exact pe_imp (pe_ix ix_tup ha hb hp) (op_lift fun x y G H Q hx hy s k => by
      cases hy
      cases hx with
      | tup q r =>
        obtain ⟨v, h1, h2⟩ := r.at h0 hi
        exact ⟨_, _, i, v, rfl, rfl, same_tup s q, h1, k v G H (.refl s) h2⟩)
  · exact pe_imp (pe_ix ix_list ha hb hp) (op_lift fun x y G H Q hx hy s k => by
      cases hy
      cases hx with
      | lst q r =>
        obtain ⟨v, h1, h2⟩ := r.at h0 hi
        exact ⟨_, _, i, v, rfl, rfl, SqL.of (s _ _ q), h1, k v G H (.refl s) h2⟩)
/-- t[k] of a tuple, k written -/
theorem pd_tx {i : Int} (ha : PD X F Γ a (.tup ds)) (hb : PD X F Γ b (.int i)) (hi : ds[i.toNat]? = some d := by rfl) (h0 : 0 ≤ i := by decide) (hp : PlainIx b := by exact fun _ _ => rfl) : PD X F Γ (.Subscript a b pos) d := pd_ix ha hb (.inl rfl) hi h0 hp

/-! ### slices -/
theorem cut_take (xs : List V) (k : Nat) : cutV xs none (some (k : Int)) = xs.take k := by
  unfold cutV
  rw [HT.sIx_none, HT.sIx_nat, List.drop_zero, Nat.sub_zero]
  by_cases h : k ≤ xs.length
  · rw [Nat.min_eq_left h]
  · rw [Nat.min_eq_right (by omega), List.take_length, List.take_of_length_le (by omega)]
theorem cut_drop1 (xs : List V) : cutV xs (some ((1 : Nat) : Int)) none = xs.drop 1 := by
  unfold cutV
  rw [HT.sIx_nat, HT.sIx_none]
  cases xs with
  | nil => rfl
  | cons x r =>
    rw [List.length_cons, show min 1 (r.length + 1) = 1 by omega]
    show List.take (r.length + 1 - 1) r = r
    rw [Nat.add_sub_cancel, List.take_length]
theorem DXs.scr {K : PySem.W.Frag} {C : Addr} {G : Hp} (ns : List Int) : DXs K C G (ns.map V.int) (ns.map Dx.int) := DXs.mk_ints ns
/-- xs[:k] of a list -/
theorem pd_sliceTo {k : Nat} {p2 : Pos} (ha : PD X F Γ a (.lst ds)) (hb : PD X F Γ b (.int (k : Int))) : PD X F Γ (.Subscript a (.Slice none (some b) none p2) pos) (.lst (ds.take k)) :=
  pe_imp (pe_slice sl_list ha po_none (po_some hb)) fun σ H Q ⟨G, st, q⟩ => ⟨G, st, fun x G1 H1 e1 dx => ⟨G1, st.step e1, fun y G2 H2 e2 dy => by
    cases dy
    cases dx with
    | @lst _ xs _ h r =>
      refine ⟨_, rfl, _, _, rfl, SqL.of ((e2.g.trans e2.v) _ _ h), fun l hl => ?_⟩
      rw [cut_take]
      have e3 : Ext4 G2 H2 (upd G2 l (.lst (List.take k xs))) (upd H2 l (.lst (List.take k xs))) := .new e2.v hl
      exact q _ _ _ ((e1.trans e2).trans e3) (.lst upd_same ((r.take k).mono (e2.g.trans e3.g)))⟩⟩
/-- xs[:k] of the script -/
theorem pd_sliceScr {ns : List Int} {k : Nat} {p2 : Pos} (ha : PD X F Γ a (.scr ns)) (hb : PD X F Γ b (.int (k : Int))) : PD X F Γ (.Subscript a (.Slice none (some b) none p2) pos) (.lst ((ns.take k).map Dx.int)) :=
  pe_imp (pe_slice sl_list ha po_none (po_some hb)) fun σ H Q ⟨G, st, q⟩ => ⟨G, st, fun x G1 H1 e1 dx => ⟨G1, st.step e1, fun y G2 H2 e2 dy => by
    cases dy
    cases dx with
    | scr h =>
      refine ⟨_, rfl, _, _, rfl, (e2.g.trans e2.v).seq h, fun l hl => ?_⟩
      rw [cut_take, ← List.map_take]
      have e3 : Ext4 G2 H2 (upd G2 l (.lst ((ns.take k).map V.int))) (upd H2 l (.lst ((ns.take k).map V.int))) := .new e2.v hl
      exact q _ _ _ ((e1.trans e2).trans e3) (.lst upd_same (DXs.scr _))⟩⟩
/-- xs[1:] of a list -/
theorem pd_sliceFrom1 {p2 : Pos} (ha : PD X F Γ a (.lst ds)) (hb : PD X F Γ b (.int 1)) : PD X F Γ (.Subscript a (.Slice (some b) none none p2) pos) (.lst (ds.drop 1)) :=
  pe_imp (pe_slice sl_list ha (po_some hb) po_none) fun σ H Q ⟨G, st, q⟩ => ⟨G, st, fun x G1 H1 e1 dx => ⟨G1, st.step e1, fun y G2 H2 e2 dy => by
    cases dy
    cases dx with
    | @lst _ xs _ h r =>
      refine ⟨1, rfl, _, _, rfl, SqL.of ((e2.g.trans e2.v) _ _ h), fun l hl => ?_⟩
      rw [show (1 : Int) = ((1 : Nat) : Int) from rfl, cut_drop1]
      have e3 : Ext4 G2 H2 (upd G2 l (.lst (List.drop 1 xs))) (upd H2 l (.lst (List.drop 1 xs))) := .new e2.v hl
      exact q _ _ _ ((e1.trans e2).trans e3) (.lst upd_same ((r.drop 1).mono (e2.g.trans e3.g)))⟩⟩
/-- t[1:] of a tuple that is not empty -/
theorem pd_sliceTup1 {d0 : Dx} {p2 : Pos} (ha : PD X F Γ a (.tup (d0 :: ds))) (hb : PD X F Γ b (.int 1)) : PD X F Γ (.Subscript a (.Slice (some b) none none p2) pos) (.tup ds) :=
  pe_imp (pe_slice sl_tup ha (po_some hb) po_none) fun σ H Q ⟨G, st, q⟩ => ⟨G, st, fun x G1 H1 e1 dx => ⟨G1, st.step e1, fun y G2 H2 e2 dy => by
    cases dy
    cases dx with
    | tup h r =>
      cases r with
      | @cons v0 vs _ _ r0 r =>
        refine ⟨1, rfl, _, _, rfl, same_tup (e2.g.trans e2.v) h, ?_, fun l hl => ?_⟩
        · rw [show (1 : Int) = ((1 : Nat) : Int) from rfl, HT.sIx_nat]
          rintro ⟨z, _⟩
          rw [List.length_cons] at z
          omega
        · rw [show (1 : Int) = ((1 : Nat) : Int) from rfl, cut_drop1]
          have e3 : Ext4 G2 H2 (upd G2 l (.tup vs)) (upd H2 l (.tup vs)) := .new e2.v hl
          exact q _ _ _ ((e1.trans e2).trans e3) (.tup (SqT.of upd_same) (r.mono (e2.g.trans e3.g)))⟩⟩

/-! ### sums of lists, of tuples -/
theorem pd_catL {es' : List Dx} (ha : PD X F Γ a (.lst ds)) (hb : PD X F Γ b (.lst es')) (hl : ds.length + es'.length ≤ 1000) : PD X F Γ (.BinOp a .Add b pos) (.lst (ds ++ es')) :=
  pd_op op_cat ha hb fun x y G H Q hx hy s k => by
    cases hx with
    | @lst _ xs1 _ h1 r1 =>
      cases hy with
      | @lst _ xs2 _ h2 r2 =>
        refine ⟨_, _, _, _, rfl, rfl, s _ _ h1, s _ _ h2, sz1000 (by rw [r1.length, r2.length]; exact hl), fun l hl' => ?_⟩
        have e : Ext4 G H (upd G l (.lst (xs1 ++ xs2))) (upd H l (.lst (xs1 ++ xs2))) := .new s hl'
        exact k _ _ _ e (.lst upd_same ((r1.append r2).mono e.g))
theorem pd_catT {d1 d2 : Dx} {ds' es' : List Dx} (ha : PD X F Γ a (.tup (d1 :: ds'))) (hb : PD X F Γ b (.tup (d2 :: es'))) (hl : Nat.ble ((d1 :: ds').length + (d2 :: es').length) 1000 = true := by rfl) : PD X F Γ (.BinOp a .Add b pos) (.tup ((d1 :: ds') ++ (d2 :: es'))) :=
  pd_op op_catT ha hb fun x y G H Q hx hy s k => by
    cases hx with
    | @tup _ xs1 _ h1 r1 =>
      cases hy with
      | @tup _ xs2 _ h2 r2 =>
        refine ⟨_, _, _, _, rfl, rfl, same_tup s h1, same_tup s h2, ?_, sz1000 (by rw [r1.length, r2.length]; exact Nat.le_of_ble_eq_true hl), fun z => ?_, fun _ l hl' => ?_⟩
        · intro z
          have := r1.length
          rw [z] at this
          cases this
        · have := r2.length
          rw [z] at this
          cases this
        · have e : Ext4 G H (upd G l (.tup (xs1 ++ xs2))) (upd H l (.tup (xs1 ++ xs2))) := .new s hl'
          exact k _ _ _ e (.tup (SqT.of upd_same) ((r1.append r2).mono e.g))

/-! ### a wheel's attributes -/
theorem pd_fld {r : Wr} {f : Str} {v : V} (T : Cls X.K F.C) (n : NoAttr X.K F.C f) (ha : PD X F Γ a (.wh r)) (hl : (whF r).lookup f = some v) (hd : ∀ G, DX X.K F.C G v d) (hb : attributeBase a f X.env (eval a X.env) = eval a X.env := by rfl) :
    PD X F Γ (.Attribute a f pos) d :=
  pe_imp (pe_fld ha hb) fun σ H Q ⟨G, st, k⟩ => ⟨G, st, fun x G1 H1 e1 dx => by
    cases dx with
    | wh h => exact ⟨_, _, _, _, v, rfl, e1.v _ _ h, T, n, hl, k v G1 H1 e1 (hd G1)⟩⟩

/-! ### isinstance -/
/-- the name of a value's type; none for a wheel and a range -/
def Dx.ty : Dx → Option String
  | .non => some "NoneType"
  | .bl _ => some "bool"
  | .int _ => some "int"
  | .str _ => some "str"
  | .tup _ => some "tuple"
  | .lst _ => some "list"
  | .scr _ => some "list"
  | .dic => some "dict"
  | _ => none
theorem DX.ty {K : PySem.W.Frag} {C : Addr} {G H : Hp} {v : V} {T : String} (h : DX K C G v d) (e : d.ty = some T) (s : Same G H) : TyX K H v (.type T) := by
  cases h with
  | non => cases e; exact .base .non
  | bl b => cases e; exact .base (.bl b)
  | int i => cases e; exact .base (.int i)
  | str y => cases e; exact .base (.str y)
  | tup q r =>
    cases e
    rcases q with (q | ⟨o, q⟩) | ⟨o, its, n, hk, hc, _⟩
    · exact .base (.tup (s _ _ q))
    · exact .fTuple (s _ _ q)
    · exact .kTuple hk hc
  | lst q r => cases e; exact .base (.lst (s _ _ q))
  | scr q =>
    cases e
    rcases q with (q | ⟨o, q⟩) | ⟨o, its, n, hk, hc, _⟩
    · exact .base (.lst (s _ _ q))
    · exact .base (.frz (s _ _ q))
    · exact .kList hk hc
  | rng q => cases e
  | dic q => cases e; exact .base (.dK (s _ _ q))
  | wh q => cases e
  | raw q => cases e
/-- isinstance(x, T), T a built-in type -/
theorem pd_isi {y : Str} {T A : String} {k : Bool} {p2 : Pos} (ha : PD X F Γ a da) (ht : da.ty = some A := by rfl) (hk : kitB A T = some k := by decide +kernel) (hm : X.mg "isinstance" = none) (hm2 : X.mg y = none) (hv : bootBuiltins y = some (.type T) := by decide +kernel)
    (hg : Gl X "isinstance" := by rfl) (hg2 : Gl X y := by rfl) (hn : y ≠ "__name__" := by decide) (hd : (y == ("__debug__" : Str)) = false := by decide)
    (he : starEach [a, .Name y p2] X.env = (false, eval a X.env) :: starEach [.Name y p2] X.env := by rfl) (he2 : starEach [.Name y p2] X.env = (false, eval (.Name y p2) X.env) :: starEach [] X.env := by rfl)
    (hpl : (backTo pos (starEach [.Name y p2] X.env)).any (·.1) = false := by rfl) :
    PD X F Γ (.Call (.Name "isinstance" p) [a, .Name y p2] [] pos) (.bl k) :=
  pe_imp (pe_callB call_isi hg hm PyProof.Rows.boot_isinstance (pa_cons ha (pa_cons (pe_bltn (v := .ty T) hg2 hm2 hv rfl hn hd) pa_nil he2) he) (by decide) (by decide) he hpl) fun σ H Q ⟨G, st, q⟩ =>
    ⟨G, st, fun x G1 H1 e1 dx => ⟨x, .ty T, _, _, k, rfl, .ty T, dx.ty ht e1.v, kit_ty hk, q _ G1 H1 e1 (.bl k)⟩⟩
/-- what the written part says of the class Wheel -/
structure WhT (K : PySem.W.Frag) (C : Addr) : Prop where
  cl : Cls K C
  ha : PySem.W.findIn K (.ref C) "__class__" = some (some (.builtin "object.__class__"))
  hn : PySem.W.specialIn K (.builtin "object.__class__") "__get__" = some (some (.builtin "getset_descriptor.__get__"))
  tk : PySem.W.takesIn K (.builtin "object.__class__") = some true
  mr : PySem.W.mroIn K C (.type "object") = some true
  kt : PySem.W.kitOne K (.ref C) (.ref C) = some true
  a1 : NoAttr K C "size"
  a2 : NoAttr K C "freeze"
  a3 : NoAttr K C "stop"
  a4 : NoAttr K C "hold"
  a5 : NoAttr K C "cut"
/-- isinstance(w, Wheel) of a wheel -/
theorem pd_isiW {y : Str} {r : Wr} {p2 : Pos} (T : WhT X.K F.C) (ha : PD X F Γ a (.wh r)) (hm : X.mg "isinstance" = none) (hm2 : X.mg y = some (.ref F.C))
    (hg : Gl X "isinstance" := by rfl) (hg2 : Gl X y := by rfl) (hd : (y == ("__debug__" : Str)) = false := by decide)
    (he : starEach [a, .Name y p2] X.env = (false, eval a X.env) :: starEach [.Name y p2] X.env := by rfl) (he2 : starEach [.Name y p2] X.env = (false, eval (.Name y p2) X.env) :: starEach [] X.env := by rfl)
    (hpl : (backTo pos (starEach [.Name y p2] X.env)).any (·.1) = false := by rfl) :
    PD X F Γ (.Call (.Name "isinstance" p) [a, .Name y p2] [] pos) (.bl true) :=
  pe_imp (pe_callB call_isi hg hm PyProof.Rows.boot_isinstance (pa_cons ha (pa_cons (pe_glob (v := .ref F.C) hg2 hm2 rfl hd) pa_nil he2) he) (by decide) (by decide) he hpl) fun σ H Q ⟨G, st, q⟩ =>
    ⟨G, st, fun x G1 H1 e1 dx => by
      cases dx with
      | wh h => exact ⟨_, .ref F.C, _, _, true, rfl, .own F.C, .base (.ins (e1.v _ _ h) T.cl T.ha T.hn T.tk T.mr), T.kt, q _ G1 H1 e1 (.bl true)⟩⟩
/-- isinstance(x, (T1, T2)), built-in types -/
theorem pd_isi2 {y1 y2 : Str} {T1 T2 A : String} {k1 k2 : Bool} {kk : Nat} {p1 p2 p3 : Pos} (ha : PD X F Γ a da) (ht : da.ty = some A) (hk1 : kitB A T1 = some k1) (hk2 : kitB A T2 = some k2) (hm : X.mg "isinstance" = none) (hm1 : X.mg y1 = none) (hm2 : X.mg y2 = none)
    (hv1 : bootBuiltins y1 = some (.type T1) := by decide +kernel) (hv2 : bootBuiltins y2 = some (.type T2) := by decide +kernel)
    (hg : Gl X "isinstance" := by rfl) (hg1 : Gl X y1 := by rfl) (hg2 : Gl X y2 := by rfl) (hn1 : y1 ≠ "__name__" := by decide) (hd1 : (y1 == ("__debug__" : Str)) = false := by decide) (hn2 : y2 ≠ "__name__" := by decide) (hd2 : (y2 == ("__debug__" : Str)) = false := by decide)
    (he : starEach [a, .Tuple [.Name y1 p1, .Name y2 p2] kk p3] X.env = (false, eval a X.env) :: starEach [.Tuple [.Name y1 p1, .Name y2 p2] kk p3] X.env := by rfl)
    (he2 : starEach [.Tuple [.Name y1 p1, .Name y2 p2] kk p3] X.env = (false, eval (.Tuple [.Name y1 p1, .Name y2 p2] kk p3) X.env) :: starEach [] X.env := by rfl)
    (he3 : starEach [.Name y1 p1, .Name y2 p2] X.env = (false, eval (.Name y1 p1) X.env) :: starEach [.Name y2 p2] X.env := by rfl) (he4 : starEach [.Name y2 p2] X.env = (false, eval (.Name y2 p2) X.env) :: starEach [] X.env := by rfl)
    (hpl : (backTo pos (starEach [.Tuple [.Name y1 p1, .Name y2 p2] kk p3] X.env)).any (·.1) = false := by rfl) :
    PD X F Γ (.Call (.Name "isinstance" p) [a, .Tuple [.Name y1 p1, .Name y2 p2] kk p3] [] pos) (.bl (k1 || k2)) :=
  pe_imp (pe_callB call_isiT hg hm PyProof.Rows.boot_isinstance (pa_cons ha (pa_cons (pe_tup (pa_cons (pe_bltn (v := .ty T1) hg1 hm1 hv1 rfl hn1 hd1) (pa_cons (pe_bltn (v := .ty T2) hg2 hm2 hv2 rfl hn2 hd2) pa_nil he4) he3)) pa_nil he2) he) (by decide) (by decide) he hpl) fun σ H Q ⟨G, st, q⟩ =>
    ⟨G, st, fun x G1 H1 e1 dx => ⟨by show 2 ≤ sizeLine; decide, fun l hl => by
      have e2 : Ext4 G1 H1 G1 (upd H1 l (.tup [.ty T1, .ty T2])) := .own e1.v hl
      refine ⟨x, l, [.ty T1, .ty T2], _, [.type T1, .type T2], k1 || k2, rfl, upd_same, .cons (.ty T1) (.cons (.ty T2) .nil), (dx.ty ht e2.v), ?_, q _ G1 _ (e1.trans e2) (.bl _)⟩
      refine kitAny_cons (kit_ty hk1) (fun z => ?_) (fun z => by rw [z]; rfl)
      rw [z]
      exact kitAny_cons (kit_ty hk2) (fun z2 => by rw [z2]; exact kitAny_nil) (fun z2 => by rw [z2]; rfl)⟩⟩

/-! ### calls of defs -/
/-- called with data ds that R joins with d, it gives d -/
def SpF (K : PySem.W.Frag) (C : Addr) (R : List Dx → Dx → Prop) : Sp := fun vs H Q _ => ∃ G ds d, Same G H ∧ DXs K C G vs ds ∧ R ds d ∧ ∀ v G' H', Ext4 G H G' H' → DX K C G' v d → Q v H'
/-- a def of the text, found by its name -/
def Df (P : Program) (w : World) (K : PySem.W.Frag) (mg : Str → Option Value) (base : Heap) (CX : CXT) (k : Nat) (x : Str) (ps : List Str) (sp : Sp) : Prop :=
  ∃ (f : Addr) (fd : FuncData), FnOk P w K mg base CX k f fd ps sp ∧ mg x = some (.ref f) ∧ PySem.W.keepIn K (.ref f) = true ∧ Binds K fd ps []
theorem pd_call {CX : CXT} {j k : Nat} {ps : List Str} {R : List Dx → Dx → Prop} (D : Df X.prog X.w X.K X.mg X.base CX j x ps (SpF X.K F.C R)) (hr : Room k X.A) (hx : Passes CX X E0) (ha : AD X F Γ (e :: es) ds) (hR : R ds d) (hj : j ≤ k := by decide) (hg : Gl X x := by rfl)
    (hdb : (x == ("__debug__" : Str)) = false := by decide) (he : starEach (e :: es) X.env = (false, eval e X.env) :: starEach es X.env := by rfl) (hpl : (backTo pos (starEach es X.env)).any (·.1) = false := by rfl) :
    PD X F Γ (.Call (.Name x p) (e :: es) [] pos) d := by
  obtain ⟨f, fd, ok, hm, hk, hb⟩ := D
  exact pe_imp (pe_call ok (hr.mono hj) hg hm hk hb .nil hx ha hdb he hpl) fun σ H Q ⟨G, st, q⟩ => ⟨G, st, fun vs G1 H1 e1 dvs => by
    show SpF X.K F.C R (vs ++ []) H1 Q E0
    rw [List.append_nil]
    exact ⟨G1, ds, d, e1.v, dvs, hR, fun v G2 H2 e2 dv => q v G2 H2 (e1.trans e2) dv⟩⟩
end
end Lap
set_option maxHeartbeats 4000000
/-! The data layer: targets, statements, blocks, loops, comprehensions. -/
namespace Lap
open PySem PySem.Spec L2
open PyProof.Rows hiding St

/-! ### what a loop walks -/
structure JW (K : PySem.W.Frag) (C : Addr) (J : It) (G : Hp) (ds : List Dx) : Prop where
  go : ∀ i H, Same G H → i < ds.length → J.go i H
  stop : ∀ i H, Same G H → ds.length ≤ i → J.stop i H
  yld : ∀ (i : Nat) (H : Hp) (x : V) (H' : Hp) (d : Dx), Same G H → ds[i]? = some d → J.yld i H x H' → ∀ G1, Same G G1 → Same G1 H → ∃ G2, Ext4 G1 H G2 H' ∧ DX K C G2 x d
theorem JW.mono {K : PySem.W.Frag} {C : Addr} {J : It} {G G' : Hp} {ds : List Dx} (h : JW K C J G ds) (s : Same G G') : JW K C J G' ds :=
  ⟨fun i H q => h.go i H (s.trans q), fun i H q => h.stop i H (s.trans q), fun i H x H' d q e y G1 a b => h.yld i H x H' d (s.trans q) e y G1 (s.trans a) b⟩
def tL (K : PySem.W.Frag) (F : Fm) (Γ : Gm) (ds : List Dx) : TI := fun σ H R => ∃ G, ST K F Γ G H σ ∧ ∀ J G1 H1, Ext4 G H G1 H1 → JW K F.C J G1 ds → R J H1
abbrev PL (X : Cx) (F : Fm) (Γ : Gm) (tg iter : Expr) (ds : List Dx) : Prop := PI X tg iter (tL X.K F Γ ds)
section
variable {X : Cx} {F : Fm} {Γ : Gm} {a b e tg iter : Expr} {p pos : Pos} {da d : Dx} {ds : List Dx}
theorem pi_imp {t t' : TI} (h : PI X tg iter t) (k : ∀ σ H R, t' σ H R → t σ H R) : PI X tg iter t' := ⟨fun pins s σ H R I q => h.run pins s σ H R I (k σ H R q)⟩
theorem jw_list {K : PySem.W.Frag} {C : Addr} {G : Hp} {l : Addr} {xs : List V} (h : G l = some (.lst xs)) (r : DXs K C G xs ds) : JW K C (Itl K l) G ds where
  go := fun i H s hi => ⟨xs, xs[i]'(by rw [r.length]; exact hi), SqL.of (s _ _ h), by simp⟩
  stop := fun i H s hi => ⟨xs, SqL.of (s _ _ h), by rw [r.length]; exact hi⟩
  yld := fun i H x H' d s hd y G1 a b => by
    obtain ⟨rfl, y⟩ := y
    obtain ⟨v, h1, h2⟩ := r.get hd
    have e := y xs (SqL.of (s _ _ h))
    rw [h1] at e
    cases e
    exact ⟨G1, .refl b, h2.mono a⟩
theorem jw_tup {K : PySem.W.Frag} {C : Addr} {G : Hp} {l : Addr} {xs : List V} (h : SqT K G l xs) (r : DXs K C G xs ds) : JW K C (Itt K l) G ds where
  go := fun i H s hi => ⟨xs, xs[i]'(by rw [r.length]; exact hi), same_tup s h, by simp⟩
  stop := fun i H s hi => ⟨xs, same_tup s h, by rw [r.length]; exact hi⟩
  yld := fun i H x H' d s hd y G1 a b => by
    obtain ⟨rfl, y⟩ := y
    obtain ⟨v, h1, h2⟩ := r.get hd
    have e := y xs (same_tup s h)
    rw [h1] at e
    cases e
    exact ⟨G1, .refl b, h2.mono a⟩
theorem pl_seq (ha : PD X F Γ iter da) (hs : Sq da ds) : PL X F Γ tg iter ds := by
  rcases hs with rfl | rfl
  · exact pi_imp (pi_tup ha) fun σ H R ⟨G, st, q⟩ => ⟨G, st, fun v G1 H1 e1 dv => by
      cases dv with
      | tup h r => exact ⟨_, rfl, ⟨_, same_tup e1.v h⟩, q _ G1 H1 e1 (jw_tup h r)⟩⟩
  · exact pi_imp (pi_list ha) fun σ H R ⟨G, st, q⟩ => ⟨G, st, fun v G1 H1 e1 dv => by
      cases dv with
      | lst h r => exact ⟨_, rfl, ⟨_, SqL.of (e1.v _ _ h)⟩, q _ G1 H1 e1 (jw_list h r)⟩⟩
def rgD (n : Nat) : List Dx := (List.range n).map fun (i : Nat) => Dx.int (i : Int)
theorem rgD_length (n : Nat) : (rgD n).length = n := by unfold rgD; rw [List.length_map, List.length_range]
theorem rgD_get {n i : Nat} {d : Dx} (h : (rgD n)[i]? = some d) : d = .int (i : Int) ∧ i < n := by
  have hi : i < n := by
    have := (List.getElem?_eq_some_iff.mp h).1
    rw [rgD_length] at this
    exact this
  unfold rgD at h
  rw [List.getElem?_map, List.getElem?_range hi] at h
  exact ⟨(Option.some.inj h).symm, hi⟩
theorem pl_range1 {n : Nat} (hm : X.mg "range" = none) (ha : PD X F Γ a (.int (n : Int))) (hn : n ≤ 1000 := by decide) (hg : Gl X "range" := by rfl) (he : starEach [a] X.env = (false, eval a X.env) :: starEach [] X.env := by rfl) : PL X F Γ tg (.Call (.Name "range" p) [a] [] pos) (rgD n) :=
  pi_imp (pi_range1 hg hm (ad_cons ha ad_nil he) (by rw [he]; rfl)) fun σ H R ⟨G, st, q⟩ => ⟨G, st, fun vs G1 H1 e1 dvs => by
    cases dvs with
    | cons h1 h2 =>
      cases h2
      cases h1
      refine ⟨(n : Int), rfl, by omega, by omega, q _ G1 H1 e1 ⟨fun i H s hi => ?_, fun i H s hi => ?_, fun i H x H' d s hd y G2 a b => ?_⟩⟩
      · rw [rgD_length] at hi; exact hi
      · rw [rgD_length] at hi; exact hi
      · obtain ⟨rfl, rfl⟩ := y
        obtain ⟨rfl, _⟩ := rgD_get hd
        exact ⟨G2, .refl b, by rw [Int.zero_add]; exact .int _⟩⟩
/-- zip(t, u) of two tuples -/
theorem pl_zipT {ds1 ds2 : List Dx} {elts : List Expr} {kk : Nat} {tpos : Pos} (hm : X.mg "zip" = none) (ha : PD X F Γ a (.tup ds1)) (hb : PD X F Γ b (.tup ds2)) (hl : ds1.length = ds2.length) (hg : Gl X "zip" := by rfl)
    (hs : starEach [a, b] X.env = (false, eval a X.env) :: starEach [b] X.env := by rfl) (hs2 : starEach [b] X.env = (false, eval b X.env) :: starEach [] X.env := by rfl) (hpl : (backTo pos (starEach [b] X.env)).any (·.1) = false := by rfl) :
    PL X F Γ (.Tuple elts kk tpos) (.Call (.Name "zip" p) [a, b] [] pos) (List.zipWith (fun x y => Dx.tup [x, y]) ds1 ds2) :=
  pi_imp (RZ.pi_zipA hg hm (ad_cons ha (ad_cons hb ad_nil hs2) hs) hs hpl) fun σ H R ⟨G, st, q⟩ => ⟨G, st, fun vs G1 H1 e1 dvs => by
    cases dvs with
    | cons h1 h2 =>
      cases h2 with
      | cons h2 h3 =>
        cases h3
        cases h1 with
        | @tup pa xs _ t1 r1 =>
          cases h2 with
          | @tup pb ys _ t2 r2 =>
            refine ⟨pa, pb, xs, ys, rfl, .inr ⟨same_tup e1.v t1, same_tup e1.v t2, q _ G1 H1 e1 ⟨fun i H s hi => ?_, fun i H s hi => ?_, fun i H x H' d s hd y G2 s1 s2 => ?_⟩⟩⟩
            · rw [List.length_zipWith, ← hl, Nat.min_self] at hi
              exact ⟨xs, ys, xs[i]'(by rw [r1.length]; exact hi), ys[i]'(by rw [r2.length, ← hl]; exact hi), same_tup s t1, same_tup s t2, by simp, by simp⟩
            · rw [List.length_zipWith, ← hl, Nat.min_self] at hi
              exact ⟨xs, ys, same_tup s t1, same_tup s t2, .inl (by rw [r1.length]; exact hi)⟩
            · obtain ⟨T, x1, x2, rfl, hT, rfl, y1, y2⟩ := y
              have g1 := y1 xs (same_tup s t1)
              have g2 := y2 ys (same_tup s t2)
              obtain ⟨d1, k1, dx1⟩ := r1.get' g1
              obtain ⟨d2, k2, dx2⟩ := r2.get' g2
              rw [List.getElem?_zipWith, k1, k2] at hd
              cases hd
              have e2 : Ext4 G2 H (upd G2 T (.tup [x1, x2])) (upd H T (.tup [x1, x2])) := .new s2 hT
              exact ⟨_, e2, .tup (SqT.of upd_same) (.cons (dx1.mono (s1.trans e2.g)) (.cons (dx2.mono (s1.trans e2.g)) .nil))⟩⟩
end

/-! ### targets -/
def Only (is : List Nat) (σ σ' : St) : Prop := σ'.length = σ.length ∧ ∀ j, j ∉ is → σ'[j]? = σ[j]?
theorem Only.set {is : List Nat} {σ : St} {i : Nat} {v : Option V} (h : i ∈ is) : Only is σ (σ.set i v) :=
  ⟨List.length_set .., fun j hj => List.getElem?_set_ne fun z => hj (by rw [← z]; exact h)⟩
theorem Only.trans {is : List Nat} {σ σ1 σ2 : St} (a : Only is σ σ1) (b : Only is σ1 σ2) : Only is σ σ2 := ⟨b.1.trans a.1, fun j hj => (b.2 j hj).trans (a.2 j hj)⟩
theorem wipe_in {σ : St} {i : Nat} : ∀ {vs : List Nat}, i ∈ vs → i < σ.length → (wipe σ vs)[i]? = some none
  | [], h, _ => by cases h
  | v :: vs, h, hi => by
    unfold wipe
    by_cases e : v = i
    · subst e
      rw [List.getElem?_set_self (by rw [wipe_length]; exact hi)]
    · rw [List.getElem?_set_ne e]
      rcases List.mem_cons.mp h with z | z
      · exact absurd z.symm e
      · exact wipe_in z hi
theorem wipe_only {is : List Nat} {σ σ' : St} (h : Only is σ σ') : wipe σ' is = wipe σ is := by
  apply List.ext_getElem?
  intro j
  by_cases hj : j ∈ is
  · by_cases hl : j < σ.length
    · rw [wipe_in hj hl, wipe_in hj (by rw [h.1]; exact hl)]
    · rw [List.getElem?_eq_none (by rw [wipe_length, h.1]; omega), List.getElem?_eq_none (by rw [wipe_length]; omega)]
  · rw [wipe_out hj, wipe_out hj, h.2 j hj]
theorem wipe_wipe {σ : St} (vs : List Nat) : wipe (wipe σ vs) vs = wipe σ vs := wipe_only ⟨wipe_length .., fun _ hj => wipe_out hj⟩
def tG (K : PySem.W.Frag) (F : Fm) (Γ : Gm) (d : Dx) (Γ' : Gm) (is : List Nat) : TG := fun v σ H Q => ∃ G, ST K F Γ G H σ ∧ DX K F.C G v d ∧ ∀ σ' G' H', Ext4 G H G' H' → ST K F Γ' G' H' σ' → Only is σ σ' → Q σ' H'
def tGs (K : PySem.W.Frag) (F : Fm) (Γ : Gm) (ds : List Dx) (Γ' : Gm) (is : List Nat) : TGs := fun vs σ H Q => ∃ G, ST K F Γ G H σ ∧ DXs K F.C G vs ds ∧ ∀ σ' G' H', Ext4 G H G' H' → ST K F Γ' G' H' σ' → Only is σ σ' → Q σ' H'
abbrev GD (X : Cx) (F : Fm) (Γ : Gm) (tg : Expr) (d : Dx) (Γ' : Gm) (is : List Nat) : Prop := PG X tg (tG X.K F Γ d Γ' is)
abbrev GDs (X : Cx) (F : Fm) (Γ : Gm) (tgs : List Expr) (ds : List Dx) (Γ' : Gm) (is : List Nat) : Prop := PGs X tgs (tGs X.K F Γ ds Γ' is)
section
variable {X : Cx} {F : Fm} {Γ Γ1 Γ2 : Gm} {e tg : Expr} {es : List Expr} {x : Str} {pos : Pos} {d : Dx} {ds : List Dx} {is : List Nat}
theorem pg_imp {t t' : TG} (h : PG X tg t) (k : ∀ v σ H Q, t' v σ H Q → t v σ H Q) : PG X tg t' := ⟨fun pins s σ H v u Q I r q => h.run pins s σ H v u Q I r (k v σ H Q q)⟩
theorem pgs_imp {t t' : TGs} (h : PGs X es t) (k : ∀ v σ H Q, t' v σ H Q → t v σ H Q) : PGs X es t' := ⟨fun pins s σ H v u Q I r q => h.run pins s σ H v u Q I r (k v σ H Q q)⟩
theorem gd_name (i : Nat) (hN : X.N.Nodup) (hi : X.N[i]? = some x := by rfl) (hx : Loc X.env.scope x := by first | exact Or.inl rfl | exact Or.inr rfl) (hm : i ∈ is := by decide) (hf : X.fn x = true ∨ X.env.scope.names.lookup x = some .local := by first | exact .inl rfl | exact .inr rfl | assumption) :
    GD X F Γ (.Name x pos) d (Γ.set i (some (.d d))) is :=
  pg_imp (pg_name hN hi hx hf) fun v σ H Q ⟨G, st, dv, q⟩ => q _ G H (.refl st.same) (st.put dv) (.set hm)
theorem gds_nil : GDs X F Γ [] [] Γ is := pgs_imp pgs_nil fun v σ H Q ⟨G, st, dv, q⟩ => by
  cases dv
  exact ⟨rfl, q _ G H (.refl st.same) st ⟨rfl, fun _ _ => rfl⟩⟩
theorem gds_cons (h1 : GD X F Γ e d Γ1 is) (h2 : GDs X F Γ1 es ds Γ2 is) (hs : (assignEach (e :: es) X.env).map (·.2) = assign e X.env :: (assignEach es X.env).map (·.2) := by rfl) : GDs X F Γ (e :: es) (d :: ds) Γ2 is :=
  pgs_imp (pgs_cons h1 h2 hs) fun v σ H Q ⟨G, st, dv, q⟩ => by
    cases dv with
    | cons a r => exact ⟨_, _, rfl, G, st, a, fun σ1 G1 H1 e1 st1 o1 => ⟨G1, st1, r.mono e1.g, fun σ2 G2 H2 e2 st2 o2 => q σ2 G2 H2 (e1.trans e2) st2 (o1.trans o2)⟩⟩
theorem gd_tup {k : Nat} (hc : X.calm = true) (h : GDs X F Γ es ds Γ1 is) (hl : (assignEach es X.env).length = ds.length := by rfl) (hst : (assignEach es X.env).findIdx? (·.1) = none := by rfl) : GD X F Γ (.Tuple es k pos) (.tup ds) Γ1 is :=
  pg_imp (pg_tup hc h hl hst) fun v σ H Q ⟨G, st, dv, q⟩ => by
    cases dv with
    | tup h r => exact ⟨_, _, rfl, same_tup st.same h, r.length, G, st, r, q⟩
end

/-! ### statements -/
def tS (K : PySem.W.Frag) (F : Fm) (Γ : Gm) (N : Gm → Prop) (R : Dx → Prop) : TS := fun D σ H => ∃ G, ST K F Γ G H σ ∧ (∀ Γ' σ' G' H', ST K F Γ' G' H' σ' → Same G G' → N Γ' → D.nx σ' H') ∧ (∀ v d G' H', Ext4 F.G F.H G' H' → DX K F.C G' v d → R d → D.rt v H')
/-- with the slots holding Γ, st either goes on with slots for which N holds, or gives back data for which R holds -/
abbrev SS (X : Cx) (F : Fm) (Γ : Gm) (st : Stmt) (N : Gm → Prop) (R : Dx → Prop) : Prop := PS X st (tS X.K F Γ N R)
abbrev BB (X : Cx) (F : Fm) (Γ : Gm) (sts : List Stmt) (N : Gm → Prop) (R : Dx → Prop) : Prop := PSs X sts (tS X.K F Γ N R)
section
variable {X : Cx} {F : Fm} {Γ Γ' : Gm} {a b c e tg iter : Expr} {es : List Expr} {st : Stmt} {rest body orelse : List Stmt} {x : Str} {p pos pos' : Pos} {d d1 d2 : Dx} {ds : List Dx} {N : Gm → Prop} {R : Dx → Prop}
theorem ps_imp {t t' : TS} (h : PS X st t) (k : ∀ D σ H, t' D σ H → t D σ H) : PS X st t' := ⟨fun pins s σ H D I q => h.run pins s σ H D I (k D σ H q)⟩
theorem pss_imp {t t' : TS} (h : PSs X rest t) (k : ∀ D σ H, t' D σ H → t D σ H) : PSs X rest t' := ⟨fun pins s σ H D I q => h.run pins s σ H D I (k D σ H q)⟩
theorem bb_nil (h : N Γ) : BB X F Γ [] N R := pss_imp pss_nil fun D σ H ⟨G, st, n, _⟩ => n Γ σ G H st (.refl _) h
theorem bb_cons (h : SS X F Γ st (fun Γ' => BB X F Γ' rest N R) R) : BB X F Γ (st :: rest) N R := by
  refine ⟨fun pins s σ H D I ⟨G, hst, n, r⟩ => ?_⟩
  refine wpAny_execs_cons (thn (h.run pins s σ H { D with nx := fun σ' H' => ∃ Γ' G', ST X.K F Γ' G' H' σ' ∧ Same G G' ∧ BB X F Γ' rest N R } I ⟨G, hst, fun Γ' σ' G' H' h1 h2 h3 => ⟨Γ', G', h1, h2, h3⟩, r⟩) fun f s1 q => ?_)
  cases f with
  | next =>
    obtain ⟨σ', H', I', Γ', G', h1, h2, h3⟩ := q
    exact h3.run pins s1 σ' H' D I' ⟨G', h1, fun Γ2 σ2 G2 H2 a b c => n Γ2 σ2 G2 H2 a (h2.trans b) c, r⟩
  | ret v => exact q
  | brk => exact q
  | cont => exact q
theorem bb_one (h : SS X F Γ st N R) : BB X F Γ [st] N R := bb_cons (ps_imp h fun D σ H ⟨G, hst, n, r⟩ => ⟨G, hst, fun Γ' σ' G' H' h1 h2 h3 => n Γ' σ' G' H' h1 h2 (bb_nil h3), r⟩)
theorem bb_weak (h : BB X F Γ' rest N R) (l : Le Γ Γ') : BB X F Γ rest N R := pss_imp h fun D σ H ⟨G, st, n, r⟩ => ⟨G, st.weak l, n, r⟩
theorem bb_freeze {i : Nat} {l : List Dx} (hi : Γ[i]? = some (some (.own l))) (h : BB X F (Γ.set i (some (.d (.lst l)))) rest N R) : BB X F Γ rest N R := pss_imp h fun D σ H ⟨G, st, n, r⟩ =>
  let ⟨G', st', sm⟩ := st.freeze hi
  ⟨G', st', fun Γ2 σ2 G2 H2 a b c => n Γ2 σ2 G2 H2 a (sm.trans b) c, r⟩
theorem bb_imp {N' : Gm → Prop} {R' : Dx → Prop} (h : BB X F Γ rest N' R') (hn : ∀ Γ, N' Γ → N Γ) (hr : ∀ d, R' d → R d) : BB X F Γ rest N R := pss_imp h fun D σ H ⟨G, st, n, r⟩ =>
  ⟨G, st, fun Γ' σ' G' H' h1 h2 h3 => n Γ' σ' G' H' h1 h2 (hn _ h3), fun v d G' H' h1 h2 h3 => r v d G' H' h1 h2 (hr _ h3)⟩
theorem ss_never (h : False) : SS X F Γ st N R := h.elim
theorem bb_never (h : False) : BB X F Γ rest N R := h.elim
theorem ss_set (i : Nat) (hN : X.N.Nodup) (he : PD X F Γ e d) (h : N (Γ.set i (some (.d d)))) (hi : X.N[i]? = some x := by rfl) (hx : Loc X.env.scope x := by first | exact Or.inl rfl | exact Or.inr rfl) (hs : swapsWith e (some (.Name x pos')) pos.line X.env = pure false := by rfl)
    (hf : X.fn x = true ∨ X.env.scope.names.lookup x = some .local := by first | exact .inl rfl | exact .inr rfl | assumption) : SS X F Γ (.Assign [.Name x pos'] e pos) N R :=
  ps_imp (ps_set hN hi hx he hs hf) fun D σ H ⟨G, st, n, r⟩ => ⟨G, st, fun v G1 H1 e1 dv => n _ _ G1 H1 ((st.step e1).put dv) e1.g h⟩
theorem ss_asg {is : List Nat} (he : PD X F Γ e d) (hg : GD X F Γ tg d Γ' is) (h : N Γ') (hs : swapsWithSole [tg] e pos.line X.env = pure false := by rfl) (hw : swappedStores [tg] e X.env = pure none := by rfl)
    (h1 : (assignEach [tg] X.env).map (·.2) = [assign tg X.env] := by rfl) : SS X F Γ (.Assign [tg] e pos) N R :=
  ps_imp (ps_asg he hg hs hw h1) fun D σ H ⟨G, st, n, r⟩ => ⟨G, st, fun v G1 H1 e1 dv => ⟨G1, st.step e1, dv, fun σ2 G2 H2 e2 st2 _ => n _ _ G2 H2 st2 (e1.g.trans e2.g) h⟩⟩
theorem ss_par (i j : Nat) {x y : Str} {px py pt : Pos} {kt k2 : Nat} {pt2 : Pos} (hc : X.calm = true) (hN : X.N.Nodup) (ha : AD X F Γ [a, b] [d1, d2]) (h : N ((Γ.set i (some (.d d1))).set j (some (.d d2)))) (hi : X.N[i]? = some x := by rfl) (hj : X.N[j]? = some y := by rfl) (hij : i ≠ j := by decide)
    (hx : X.env.scope.names.lookup x = some .local := by rfl) (hy : X.env.scope.names.lookup y = some .local := by rfl)
    (hw : swappedStores [.Tuple [.Name x px, .Name y py] kt pt] (.Tuple [a, b] k2 pt2) X.env = pure (some [x, y]) := by rfl)
    (hs : swapsWithSole [.Tuple [.Name x px, .Name y py] kt pt] (.Tuple [a, b] k2 pt2) pos.line X.env = pure false := by rfl) :
    SS X F Γ (.Assign [.Tuple [.Name x px, .Name y py] kt pt] (.Tuple [a, b] k2 pt2) pos) N R :=
  ps_imp (ps_par hc hN hi hj hij hx hy ha hw hs) fun D σ H ⟨G, st, n, r⟩ => ⟨G, st, fun vs G1 H1 e1 dvs => by
    cases dvs with
    | cons h1 r1 =>
      cases r1 with
      | cons h2 r2 =>
        cases r2
        exact ⟨_, _, rfl, n _ _ G1 H1 (((st.step e1).put h1).put h2) e1.g h⟩⟩
/-- x, y = e, [] -/
theorem ss_parOwnR (i j : Nat) {x y : Str} {px py pt : Pos} {kt k2 : Nat} {pt2 pl : Pos} (hc : X.calm = true) (hN : X.N.Nodup) (ha : PD X F Γ a d) (h : N ((Γ.set i (some (.d d))).set j (some (.own [])))) (hi : X.N[i]? = some x := by rfl) (hj : X.N[j]? = some y := by rfl) (hij : i ≠ j := by decide)
    (hx : X.env.scope.names.lookup x = some .local := by rfl) (hy : X.env.scope.names.lookup y = some .local := by rfl)
    (hw : swappedStores [.Tuple [.Name x px, .Name y py] kt pt] (.Tuple [a, .List [] pl] k2 pt2) X.env = pure (some [x, y]) := by rfl)
    (hs : swapsWithSole [.Tuple [.Name x px, .Name y py] kt pt] (.Tuple [a, .List [] pl] k2 pt2) pos.line X.env = pure false := by rfl)
    (h1 : starEach [a, .List [] pl] X.env = (false, eval a X.env) :: starEach [.List [] pl] X.env := by rfl) :
    SS X F Γ (.Assign [.Tuple [.Name x px, .Name y py] kt pt] (.Tuple [a, .List [] pl] k2 pt2) pos) N R :=
  ps_imp (ps_par hc hN hi hj hij hx hy (pa_cons ha (pa_cons (pe_lst pa_nil) pa_nil) h1) hw hs) fun D σ H ⟨G, st, n, r⟩ => ⟨G, st, fun v G1 H1 e1 dv => ⟨Nat.zero_le _, fun q hq =>
    ⟨_, _, rfl, n _ _ G1 _ (((st.step e1).put dv).putOwn hq) e1.g h⟩⟩⟩
/-- x, y = [], e -/
theorem ss_parOwnL (i j : Nat) {x y : Str} {px py pt : Pos} {kt k2 : Nat} {pt2 pl : Pos} (hc : X.calm = true) (hN : X.N.Nodup) (ha : PD X F Γ a d) (h : N ((Γ.set i (some (.own []))).set j (some (.d d)))) (hi : X.N[i]? = some x := by rfl) (hj : X.N[j]? = some y := by rfl) (hij : i ≠ j := by decide)
    (hx : X.env.scope.names.lookup x = some .local := by rfl) (hy : X.env.scope.names.lookup y = some .local := by rfl)
    (hw : swappedStores [.Tuple [.Name x px, .Name y py] kt pt] (.Tuple [.List [] pl, a] k2 pt2) X.env = pure (some [x, y]) := by rfl)
    (hs : swapsWithSole [.Tuple [.Name x px, .Name y py] kt pt] (.Tuple [.List [] pl, a] k2 pt2) pos.line X.env = pure false := by rfl)
    (h1 : starEach [.List [] pl, a] X.env = (false, eval (.List [] pl) X.env) :: starEach [a] X.env := by rfl) (h2 : starEach [a] X.env = (false, eval a X.env) :: starEach [] X.env := by rfl) :
    SS X F Γ (.Assign [.Tuple [.Name x px, .Name y py] kt pt] (.Tuple [.List [] pl, a] k2 pt2) pos) N R :=
  ps_imp (ps_par hc hN hi hj hij hx hy (pa_cons (pe_lst pa_nil) (pa_cons ha pa_nil h2) h1) hw hs) fun D σ H ⟨G, st, n, r⟩ => ⟨Nat.zero_le _, fun q hq => by
    have st1 := st.step (Ext4.own (o := .lst []) st.same hq)
    refine ⟨G, st1, fun v G1 H1 e1 dv => ?_⟩
    -- the new list stands at q as it was made; nothing of it lies still
    refine ⟨_, _, rfl, n _ _ G1 H1 ?_ e1.g h⟩
    have gq : G q = none := st.same.free hq
    have hq1 : H1 q = some (.lst []) := e1.h _ _ upd_same
    have gq1 : G1 q = none := e1.n q gq (by rw [upd_same]; exact fun z => by cases z)
    have st2 := st1.step e1
    have key : ST X.K F (Γ.set i (some (.own []))) G1 H1 (σ.set i (some (.ref q))) := by
      refine ⟨by rw [List.length_set, List.length_set, st2.len], fun k s q' => ?_, fun k m a l l' q1 q2 e1' e2' => ?_, st2.same, st2.ext⟩
      · rcases set_get q' with ⟨rfl, ee⟩ | ⟨ne, q'⟩
        · cases ee
          have hj : k < σ.length := by
            rw [st2.len, ← List.length_set]
            exact (List.getElem?_eq_some_iff.mp q').1
          exact ⟨.ref q, List.getElem?_set_self hj, q, [], rfl, st.ext.h.free hq, gq1, hq1, .nil⟩
        · obtain ⟨u, h1, h2⟩ := st2.sl k s q'
          exact ⟨u, by rw [List.getElem?_set_ne (Ne.symm ne)]; exact h1, h2⟩
      · have nop : ∀ (k : Nat) (l : List Dx), k ≠ i → Γ[k]? = some (some (.own l)) → σ[k]? ≠ some (some (.ref q)) := fun k l ne q' z => by
          obtain ⟨u, h1, b, xs, rfl, _, _, h3, _⟩ := st.sl k _ q'
          rw [z] at h1
          cases h1
          rw [hq] at h3
          cases h3
        rcases set_get q1 with ⟨r1, _⟩ | ⟨ne1, q1'⟩
        · rcases set_get q2 with ⟨r2, _⟩ | ⟨ne2, q2'⟩
          · rw [r1, r2]
          · subst r1
            have hj : k < σ.length := by
              have := (List.getElem?_eq_some_iff.mp e1').1
              rw [List.length_set] at this
              exact this
            rw [List.getElem?_set_self hj] at e1'
            cases e1'
            rw [List.getElem?_set_ne (Ne.symm ne2)] at e2'
            exact absurd e2' (nop m _ ne2 q2')
        · rw [List.getElem?_set_ne (Ne.symm ne1)] at e1'
          rcases set_get q2 with ⟨r2, _⟩ | ⟨ne2, q2'⟩
          · subst r2
            have hk : m < σ.length := by
              have := (List.getElem?_eq_some_iff.mp e2').1
              rw [List.length_set] at this
              exact this
            rw [List.getElem?_set_self hk] at e2'
            cases e2'
            exact absurd e1' (nop k _ ne1 q1')
          · rw [List.getElem?_set_ne (Ne.symm ne2)] at e2'
            exact st.dis k m a l l' q1' q2' e1' e2'
    exact key.put dv⟩
theorem ss_ret (he : PD X F Γ e d) (hr : R d) : SS X F Γ (.Return (some e) pos) N R :=
  ps_imp (ps_ret he) fun D σ H ⟨G, st, n, r⟩ => ⟨G, st, fun v G1 H1 e1 dv => r v d G1 H1 (st.ext.trans e1) dv hr⟩
theorem ss_retOwn {i : Nat} {l : List Dx} (hΓ : Γ[i]? = some (some (.own l))) (hr : R (.lst l)) (hN : X.N[i]? = some x := by rfl) (hv : Vis X.env.scope x := by first | exact Or.inl rfl | exact Or.inr (Or.inl rfl) | exact Or.inr (Or.inr rfl))
    (hd : (x == ("__debug__" : Str)) = false := by decide) (hcd : (x == ("__classdict__" : Str)) = false := by decide) : SS X F Γ (.Return (some (.Name x p)) pos) N R :=
  ps_imp (ps_ret (pe_var hN hv hd hcd)) fun D σ H ⟨G, st, n, r⟩ => by
    obtain ⟨G', st', _⟩ := st.freeze hΓ
    obtain ⟨v, h1, h2⟩ := st'.sl i (.d (.lst l)) (by
      rw [List.getElem?_set_self]
      exact (List.getElem?_eq_some_iff.mp hΓ).1)
    exact ⟨v, h1, r v _ G' H st'.ext h2 hr⟩
theorem ss_if {k : Bool} (hc : TD X F Γ c k) (ht : k = true → BB X F Γ body N R) (hf : k = false → BB X F Γ orelse N R) : SS X F Γ (.If c body orelse pos) N R := by
  cases k with
  | true => exact ps_imp (ps_if hc (ht rfl) pss_never) fun D σ H ⟨G, st, n, r⟩ => ⟨G, st, fun G1 H1 e1 => iteT ⟨G1, st.step e1, fun Γ2 σ2 G2 H2 a b c => n Γ2 σ2 G2 H2 a (e1.g.trans b) c, r⟩⟩
  | false => exact ps_imp (ps_if hc pss_never (hf rfl)) fun D σ H ⟨G, st, n, r⟩ => ⟨G, st, fun G1 H1 e1 => iteF ⟨G1, st.step e1, fun Γ2 σ2 G2 H2 a b c => n Γ2 σ2 G2 H2 a (e1.g.trans b) c, r⟩⟩
theorem ss_expr (he : PD X F Γ e d) (h : N Γ) (hs : swapsWith e none pos.line X.env = pure false := by rfl) : SS X F Γ (.Expr e pos) N R :=
  ps_imp (ps_expr he hs) fun D σ H ⟨G, st, n, r⟩ => ⟨G, st, fun v G1 H1 e1 dv => n _ _ G1 H1 (st.step e1) e1.g h⟩
/-- x.append(e), x the def's own list -/
theorem ss_append (i : Nat) {l : List Dx} {ap cp : Pos} (he : PD X F Γ e d) (hl : l.length ≤ 1000) (h : N (Γ.set i (some (.own (l ++ [d]))))) (hΓ : Γ[i]? = some (some (.own l)) := by rfl) (hN : X.N[i]? = some x := by rfl)
    (hv : Vis X.env.scope x := by first | exact Or.inl rfl | exact Or.inr (Or.inl rfl) | exact Or.inr (Or.inr rfl)) (hd : (x == ("__debug__" : Str)) = false := by decide) (hcd : (x == ("__classdict__" : Str)) = false := by decide)
    (hs : swapsWith (.Call (.Attribute (.Name x p) "append" ap) [e] [] cp) none pos.line X.env = pure false := by rfl) (h1 : starEach [e] X.env = (false, eval e X.env) :: starEach [] X.env := by rfl)
    (hpl : (backTo cp (starEach [] X.env)).any (·.1) = false := by rfl)
    (hfew : ((backTo cp (starEach [e] X.env)).all (fun x => !x.1) && (backToKw cp (keywordEach [] X.env)).all (fun x => x.1.isSome)
      && decide ([e].length + ([] : List Keyword).length + (if ([] : List Keyword).isEmpty then 0 else 1) < 30)) = true := by rfl)
    (hline : (ap.endLine == cp.line) = true := by rfl) :
    SS X F Γ (.Expr (.Call (.Attribute (.Name x p) "append" ap) [e] [] cp) pos) N R :=
  ps_imp (ps_expr (pe_bm PySem.F.plainAttrs_list PySem.F.slot_list_append PySem.F.type_list_append mt_append (pe_var hN hv hd hcd) (pa_cons he pa_nil h1) rfl hfew hline h1 hpl) hs) fun D σ H ⟨G, st, n, r⟩ => by
    obtain ⟨v, hs1, q, xs, rfl, h1, h2, h3, h4⟩ := st.sl i _ hΓ
    refine ⟨_, hs1, .inl ⟨rfl, _, SqL.of h3⟩, G, st, fun v G1 H1 e1 dv => ?_⟩
    refine ⟨q, xs, v, rfl, rfl, e1.h _ _ h3, Nat.lt_of_le_of_lt (by rw [h4.length]; exact hl) (by decide), ?_⟩
    exact n _ _ G1 _ ((st.step e1).grow hΓ hs1 (e1.h _ _ h3) dv) e1.g h
/-- for .. in ..; Iv: what holds of the slots ahead of turn k -/
theorem ss_for (Iv : Nat → Gm → Prop) (hp : PassesOwn (model X.prog X.w) X.A X.env X.xe) (hc : X.calm = true) (hi : PL X F Γ tg iter ds) (h0 : Iv 0 Γ)
    (hb : ∀ (k : Nat) (d : Dx) (Γ1 : Gm), ds[k]? = some d → Iv k Γ1 → ∃ Γ2 is, GD X F Γ1 tg d Γ2 is ∧ BB X F Γ2 body (Iv (k + 1)) R) (hn : ∀ Γ1, Iv ds.length Γ1 → N Γ1)
    (hs : ∀ x, foldedSetIterable iter X.env x = pure x := by intro _; rfl) : SS X F Γ (.For tg iter body [] pos) N R := by
  have hg : PG X tg (fun v σ H Q => ∃ (Γ1 : Gm) (d : Dx) (Γ2 : Gm) (is : List Nat), GD X F Γ1 tg d Γ2 is ∧ tG X.K F Γ1 d Γ2 is v σ H Q) := ⟨fun pins s σ H v u Q I r ⟨_, _, _, _, g, q⟩ => g.run pins s σ H v u Q I r q⟩
  have hbd : PSs X body (fun D σ H => ∃ (Γ2 : Gm) (N' : Gm → Prop), BB X F Γ2 body N' R ∧ tS X.K F Γ2 N' R D σ H) := ⟨fun pins s σ H D I ⟨_, _, g, q⟩ => g.run pins s σ H D I q⟩
  refine ps_imp (ps_for hp hc hi hg hbd hs) fun D σ H ⟨G, st, n, r⟩ => ⟨G, st, fun J G1 H1 e1 j => ?_⟩
  refine ⟨fun i m σ' H' => m = ds.length - i ∧ i ≤ ds.length ∧ ∃ Γ1 G', ST X.K F Γ1 G' H' σ' ∧ Same G1 G' ∧ Iv i Γ1, ⟨ds.length, by simp, Nat.zero_le _, Γ, G1, st.step e1, .refl _, h0⟩, ?_⟩
  rintro i m σ1 H2 ⟨rfl, hi, Γ1, G2, st1, s1, iv⟩
  by_cases hlt : i < ds.length
  · refine .inr ⟨j.go i H2 (s1.trans st1.same) hlt, fun σ' H' => ∃ Γ1 G', ST X.K F Γ1 G' H' σ' ∧ Same G1 G' ∧ Iv (i + 1) Γ1, fun σ' H' hN => ⟨ds.length - (i + 1), by omega, rfl, hlt, hN⟩, fun x H' y => ?_⟩
    have hd : ds[i]? = some ds[i] := List.getElem?_eq_getElem hlt
    obtain ⟨G3, e3, dx⟩ := j.yld i H2 x H' _ (s1.trans st1.same) hd y G2 s1 st1.same
    obtain ⟨Γ2, is, g, bb⟩ := hb i _ Γ1 hd iv
    refine ⟨Γ1, _, Γ2, is, g, G3, st1.step e3, dx, fun σ2 G4 H4 e4 st4 _ => ?_⟩
    -- the body, from an entry that remembers G1 lies still
    have sG : Same G1 G4 := (s1.trans e3.g).trans e4.g
    refine ⟨Γ2, fun Γ' => Iv (i + 1) Γ', bb, G4, st4, fun Γ' σ' G' H' st' sm iv' => ?_, fun v d G' H' h1 h2 h3 => r v d G' H' h1 h2 h3⟩
    exact ⟨Γ', G', st', sG.trans sm, iv'⟩
  · have e : i = ds.length := by omega
    subst e
    exact .inl ⟨j.stop _ H2 (s1.trans st1.same) (Nat.le_refl _), n Γ1 σ1 G2 H2 st1 (e1.g.trans s1) (hn _ iv)⟩
end
end Lap
set_option maxHeartbeats 4000000
/-! The data layer: comprehensions, == of data, defs. -/
namespace Lap
open PySem PySem.Spec L2
open PyProof.Rows hiding St

/-! ### comprehensions -/
def wipeG (Γ : Gm) : List Nat → Gm
  | [] => Γ
  | v :: vs => (wipeG Γ vs).set v none
theorem ST.wipe {K : PySem.W.Frag} {F : Fm} {Γ : Gm} {G H : Hp} {σ : St} (h : ST K F Γ G H σ) : ∀ vs : List Nat, ST K F (wipeG Γ vs) G H (wipe σ vs)
  | [] => h
  | v :: vs => (ST.wipe h vs).lose
/-- a thing at D that is in no slot, not still, not of the entry, changes -/
theorem ST.touch {K : PySem.W.Frag} {F : Fm} {Γ : Gm} {G H : Hp} {σ : St} {D : Addr} {o : HO} (h : ST K F Γ G H σ) (gD : G D = none) (fD : F.H D = none)
    (no : ∀ (i : Nat) (s : Sl), Γ[i]? = some (some s) → (∀ x, s ≠ .d x) → σ[i]? ≠ some (some (.ref D))) : ST K F Γ G (upd H D o) σ := by
  refine ⟨h.len, fun i s q => ?_, h.dis, fun a u q => ?_, ⟨h.ext.g, fun a u q => ?_, fun a u q => ?_, h.ext.n⟩⟩
  · obtain ⟨v, h1, h2⟩ := h.sl i s q
    refine ⟨v, h1, ?_⟩
    cases s with
    | d x => exact h2
    | own m =>
      obtain ⟨c, zs, rfl, z1, z2, z3, z4⟩ := h2
      have : c ≠ D := fun z => no i _ q (fun x => by intro z; cases z) (by rw [h1, z])
      exact ⟨c, zs, rfl, z1, z2, by rw [upd_ne this]; exact z3, z4⟩
    | dct m =>
      obtain ⟨c, rfl, z1, z2, z3⟩ := h2
      have : c ≠ D := fun z => no i _ q (fun x => by intro z; cases z) (by rw [h1, z])
      exact ⟨c, rfl, z1, z2, by rw [upd_ne this]; exact z3⟩
  · rw [upd_ne (ne_of_none q gD)]; exact h.same _ _ q
  · rw [upd_ne (ne_of_none q fD)]; exact h.ext.h _ _ q
  · rw [upd_ne (ne_of_none q gD)]; exact h.same _ _ q
theorem take_more {α : Type} : ∀ {l : List α} {i : Nat} {x : α}, l[i]? = some x → l.take (i + 1) = l.take i ++ [x]
  | [], i, x, h => by simp at h
  | a :: l, 0, x, h => by
    have e : a = x := Option.some.inj h
    subst e
    rfl
  | a :: l, i + 1, x, h => by
    have ih := take_more (l := l) (i := i) (x := x) h
    show a :: l.take (i + 1) = a :: l.take i ++ [x]
    rw [ih]
    rfl
section
variable {X : Cx} {F : Fm} {Γ : Gm} {elt tg iter : Expr} {ifs : List Expr} {scope : Scope} {own : List (Str × Nat)} {pos : Pos} {ds : List Dx}
theorem pts_imp {t t' : TT} (h : PTs X ifs t) (k : ∀ σ H Q, t' σ H Q → t σ H Q) : PTs X ifs t' := ⟨fun pins s σ H Q I q => h.run pins s σ H Q I (k σ H Q q)⟩
theorem tds_nil : PTs X [] (tT X.K F Γ true) := pts_imp pts_nil fun σ H Q ⟨G, st, q⟩ => q G H (.refl st.same)
theorem tds_one {c : Expr} {b : Bool} (h : TD X F Γ c b) : PTs X [c] (tT X.K F Γ b) := pts_one h
abbrev CX1 (X : Cx) (scope : Scope) (s : Shared) (H : Hp) (C : Addr) (cl : List (Str × Addr)) (fp : List Addr) : Cx := X.blk s H scope (compEnvC scope cl C X.env) fp
theorem lc_read (g : Dx → Option Dx) (hi : PL X F Γ tg iter ds) (hl : ds.length ≤ 1000)
    (hb : ∀ d, d ∈ ds → ∃ (Γ2 : Gm) (b : Bool), (∀ s H C cl fp, GD (CX1 X scope s H C cl fp) F (wipeG Γ (own.map (·.2))) tg d Γ2 (own.map (·.2))) ∧
      (∀ s H C cl fp, PTs (CX1 X scope s H C cl fp) ifs (tT X.K F Γ2 b)) ∧ (b = true → ∃ d', g d = some d' ∧ ∀ s H C cl fp, PD (CX1 X scope s H C cl fp) F Γ2 elt d') ∧ (b = false → g d = none)) :
    ∃ (gT : TG) (tt : TT) (te : TE), (∀ s H C cl fp, PG (CX1 X scope s H C cl fp) tg gT) ∧ (∀ s H C cl fp, PTs (CX1 X scope s H C cl fp) ifs tt) ∧ (∀ s H C cl fp, PE (CX1 X scope s H C cl fp) elt te) ∧
      ∀ σ H Q, tD X.K F Γ (.lst (ds.filterMap g)) σ H Q → tLc (tL X.K F Γ ds) gT tt te (own.map (·.2)) σ H Q := by
  refine ⟨fun v σ H Q => ∃ (d : Dx) (Γ2 : Gm), (∀ s H C cl fp, GD (CX1 X scope s H C cl fp) F (wipeG Γ (own.map (·.2))) tg d Γ2 (own.map (·.2))) ∧ tG X.K F (wipeG Γ (own.map (·.2))) d Γ2 (own.map (·.2)) v σ H Q,
    fun σ H Q => ∃ (Γ2 : Gm) (b : Bool), (∀ s H C cl fp, PTs (CX1 X scope s H C cl fp) ifs (tT X.K F Γ2 b)) ∧ tT X.K F Γ2 b σ H Q,
    fun σ H Q => ∃ (Γ2 : Gm) (d' : Dx), (∀ s H C cl fp, PD (CX1 X scope s H C cl fp) F Γ2 elt d') ∧ tD X.K F Γ2 d' σ H Q,
    fun s H C cl fp => ⟨fun pins s' σ H' v u Q I r ⟨_, _, a, q⟩ => (a s H C cl fp).run pins s' σ H' v u Q I r q⟩,
    fun s H C cl fp => ⟨fun pins s' σ H' Q I ⟨_, _, a, q⟩ => (a s H C cl fp).run pins s' σ H' Q I q⟩,
    fun s H C cl fp => ⟨fun pins s' σ H' Q I ⟨_, _, a, q⟩ => (a s H C cl fp).run pins s' σ H' Q I q⟩, fun σ H Q ⟨G, st, q⟩ => ⟨G, st, fun J G1 H1 e1 j D hD => ?_⟩⟩
  have st1 := st.step e1
  have gD : G1 D = none := e1.v.free hD
  have fD : F.H D = none := st1.ext.h.free hD
  have no : ∀ (i : Nat) (s : Sl), (wipeG Γ (own.map (·.2)))[i]? = some (some s) → (∀ x, s ≠ .d x) → (wipe σ (own.map (·.2)))[i]? ≠ some (some (.ref D)) := fun i s q nd z => by
    obtain ⟨v, h1, h2⟩ := (st1.wipe (own.map (·.2))).sl i s q
    rw [z] at h1
    cases h1
    cases s with
    | d x => exact nd x rfl
    | own m =>
      obtain ⟨c, zs, e, _, _, z3, _⟩ := h2
      cases e
      rw [hD] at z3
      cases z3
    | dct m =>
      obtain ⟨c, e, _, _, z3⟩ := h2
      cases e
      rw [hD] at z3
      cases z3
  refine ⟨fun i m H' => m = ds.length - i ∧ i ≤ ds.length ∧ ∃ (G' : Hp) (acc : List V), ST X.K F (wipeG Γ (own.map (·.2))) G' H' (wipe σ (own.map (·.2))) ∧ Ext4 G1 H1 G' H' ∧ G' D = none ∧ H' D = some (.lst acc) ∧ DXs X.K F.C G' acc ((ds.take i).filterMap g),
    ⟨ds.length, by simp, Nat.zero_le _, G1, [], (st1.wipe _).step (.own e1.v hD), .own e1.v hD, gD, upd_same, .nil⟩, ?_⟩
  rintro i m H2 ⟨rfl, hi', G2, acc, st2, e2, g2, hD2, da⟩
  by_cases hlt : i < ds.length
  · refine .inr ⟨j.go i H2 (e2.g.trans e2.v) hlt, fun H' => ∃ (G' : Hp) (acc : List V), ST X.K F (wipeG Γ (own.map (·.2))) G' H' (wipe σ (own.map (·.2))) ∧ Ext4 G1 H1 G' H' ∧ G' D = none ∧ H' D = some (.lst acc) ∧ DXs X.K F.C G' acc ((ds.take (i + 1)).filterMap g),
      fun H' hN => ⟨ds.length - (i + 1), by omega, rfl, hlt, hN⟩, fun x H3 y => ?_⟩
    have hd : ds[i]? = some ds[i] := List.getElem?_eq_getElem hlt
    obtain ⟨G3, e3, dx⟩ := j.yld i H2 x H3 _ (e2.g.trans e2.v) hd y G2 e2.g e2.v
    obtain ⟨Γ2, b, hg, ht, he, hf⟩ := hb _ (List.mem_of_getElem? hd)
    have someH : ∀ {H' : Hp} {a : List V}, H' D = some (.lst a) → H' D ≠ none := fun h z => by rw [h] at z; cases z
    have hD3 := e3.h _ _ hD2
    have g3 := e3.n D g2 (someH hD2)
    refine ⟨_, Γ2, hg, G3, st2.step e3, dx, fun σ4 G4 H4 e4 st4 on => ⟨(wipe_only on).trans (wipe_wipe _), Γ2, b, ht, G4, st4, fun G5 H5 e5 => ?_⟩⟩
    have e35 := (e3.trans e4).trans e5
    have hD5 := e35.h _ _ hD2
    have g5 := e35.n D g2 (someH hD2)
    have da5 := da.mono e35.g
    have stw : ST X.K F (wipeG Γ (own.map (·.2))) G5 H5 (wipe σ (own.map (·.2))) := st2.step e35
    have tk := take_more hd
    cases b with
    | false =>
      refine iteF ⟨G5, acc, stw, e2.trans e35, g5, hD5, ?_⟩
      rw [tk, List.filterMap_append, List.filterMap_cons, hf rfl]
      simpa using da5
    | true =>
      obtain ⟨d', hgd, hel⟩ := he rfl
      refine iteT ⟨Γ2, d', hel, G5, st4.step e5, fun v G6 H6 e6 dv => ?_⟩
      have hD6 := e6.h _ _ hD5
      have g6 := e6.n D g5 (someH hD5)
      refine ⟨acc, hD6, ?_, G6, acc ++ [v], (stw.step e6).touch g6 fD no, ?_, g6, upd_same, ?_⟩
      · rw [da.length]
        refine Nat.lt_of_le_of_lt (Nat.le_trans (List.length_filterMap_le _ _) ?_) (show 1000 < sizeLine by decide)
        rw [List.length_take]
        omega
      · have e16 := e2.trans (e35.trans e6)
        refine ⟨e16.g, fun a u z => ?_, fun a u z => ?_, e16.n⟩
        · rw [upd_ne (ne_of_none z hD)]; exact e16.h _ _ z
        · rw [upd_ne (ne_of_none z g6)]; exact e16.v _ _ z
      · rw [tk, List.filterMap_append, List.filterMap_cons, hgd]
        exact (da5.mono e6.g).append (.cons dv .nil)
  · have e : i = ds.length := by omega
    subst e
    rw [List.take_length] at da
    refine .inl ⟨j.stop _ H2 (e2.g.trans e2.v) (Nat.le_refl _), ?_⟩
    have sG : Same G2 (upd G2 D (.lst acc)) := fun a o z => by rw [upd_ne (ne_of_none z g2)]; exact z
    refine q (.ref D) (upd G2 D (.lst acc)) H2 (e1.trans ⟨e2.g.trans sG, e2.h, fun a u z => ?_, fun a h1 h2 => ?_⟩) (.lst upd_same (da.mono sG))
    · by_cases ha : a = D
      · rw [ha, upd_same] at z; rw [ha, hD2]; exact z
      · rw [upd_ne ha] at z; exact e2.v _ _ z
    · have ha : a ≠ D := fun z => h2 (by rw [z]; exact hD)
      rw [upd_ne ha]
      exact e2.n a h1 h2
/-- [elt for tg in iter if ..] -/
theorem pd_lc (own : List (Str × Nat)) (g : Dx → Option Dx) (hc : X.calm = true) (hN : X.N.Nodup) (ok : BlkOk X.N X.env.scope scope own) (hi : PL X F Γ tg iter ds) (hl : ds.length ≤ 1000)
    (hb : ∀ d, d ∈ ds → ∃ (Γ2 : Gm) (b : Bool), (∀ s H C cl fp, GD (CX1 X scope s H C cl fp) F (wipeG Γ (own.map (·.2))) tg d Γ2 (own.map (·.2))) ∧
      (∀ s H C cl fp, PTs (CX1 X scope s H C cl fp) ifs (tT X.K F Γ2 b)) ∧ (b = true → ∃ d', g d = some d' ∧ ∀ s H C cl fp, PD (CX1 X scope s H C cl fp) F Γ2 elt d') ∧ (b = false → g d = none))
    (hs : ∀ x, foldedSetIterable iter X.env x = pure x := by intro _; rfl) : PD X F Γ (.ListComp elt [⟨tg, iter, ifs, 0⟩] scope pos) (.lst (ds.filterMap g)) := by
  obtain ⟨gT, tt, te, h1, h2, h3, h4⟩ := lc_read g hi hl hb
  exact pe_imp (pe_lc hc hN hi ok h1 h2 h3 hs) h4
/-- y = [elt for tg in iter if ..], y a local -/
theorem ss_setLc (i : Nat) {y : Str} {py spos : Pos} {N : Gm → Prop} {R : Dx → Prop} (own : List (Str × Nat)) (g : Dx → Option Dx) (hc : X.calm = true) (hN : X.N.Nodup) (ok : BlkOk X.N X.env.scope scope own) (hi : PL X F Γ tg iter ds) (hl : ds.length ≤ 1000)
    (hb : ∀ d, d ∈ ds → ∃ (Γ2 : Gm) (b : Bool), (∀ s H C cl fp, GD (CX1 X scope s H C cl fp) F (wipeG Γ (own.map (·.2))) tg d Γ2 (own.map (·.2))) ∧
      (∀ s H C cl fp, PTs (CX1 X scope s H C cl fp) ifs (tT X.K F Γ2 b)) ∧ (b = true → ∃ d', g d = some d' ∧ ∀ s H C cl fp, PD (CX1 X scope s H C cl fp) F Γ2 elt d') ∧ (b = false → g d = none))
    (h : N (Γ.set i (some (.d (.lst (ds.filterMap g))))))
    (hsw : swapsWith (.ListComp elt [⟨tg, iter, ifs, 0⟩] scope pos) (some (.Name y py)) spos.line X.env = pure true)
    (hy : X.N[i]? = some y := by rfl) (hyl : X.env.scope.names.lookup y = some .local := by rfl) (hs : ∀ x, foldedSetIterable iter X.env x = pure x := by intro _; rfl) : SS X F Γ (.Assign [.Name y py] (.ListComp elt [⟨tg, iter, ifs, 0⟩] scope pos) spos) N R := by
  obtain ⟨gT, tt, te, h1, h2, h3, h4⟩ := lc_read g hi hl hb
  exact ps_imp (ps_setLc hc hN hy hyl hsw hi ok h1 h2 h3 hs) fun D σ H ⟨G, st, n, r⟩ => h4 σ H _ ⟨G, st, fun v G1 H1 e1 dv => n _ _ G1 H1 ((st.step e1).put dv) e1.g h⟩
end

/-! ### == of data -/
mutual
def Dx.py : Dx → PyData
  | .non => .none
  | .bl b => .bool b
  | .int i => .int i
  | .str x => .str x
  | .tup l => .tuple (Dx.pys l)
  | .lst l => .list (Dx.pys l)
  | .scr l => .list (l.map .int)
  | .rng _ _ => .none
  | .dic => .none
  | .wh _ => .none
  | .raw _ => .none
def Dx.pys : List Dx → List PyData
  | [] => []
  | d :: r => Dx.py d :: Dx.pys r
end
mutual
/-- only such data, nested at most n deep, texts within the model's signs -/
def Dx.ok : Nat → Dx → Bool
  | _, .non => true
  | _, .bl _ => true
  | _, .int _ => true
  | _, .str x => PyData.strOk x
  | n + 1, .tup l => Dx.oks n l
  | n + 1, .lst l => Dx.oks n l
  | _, _ => false
def Dx.oks : Nat → List Dx → Bool
  | _, [] => true
  | n, d :: r => Dx.ok n d && Dx.oks n r
end
mutual
theorem Dx.ok_lay : ∀ (n : Nat) (d : Dx), Dx.ok n d = true → (Dx.py d).canLay0 = true ∧ (Dx.py d).depth ≤ n
  | _, .non, _ => ⟨rfl, Nat.zero_le _⟩
  | _, .bl _, _ => ⟨rfl, Nat.zero_le _⟩
  | _, .int _, _ => ⟨rfl, Nat.zero_le _⟩
  | _, .str x, h => ⟨by simpa [Dx.ok, Dx.py, PyData.canLay0] using h, by simp [Dx.py, PyData.depth]⟩
  | n + 1, .tup l, h => by
    have := Dx.oks_lay n l (by simpa [Dx.ok] using h)
    exact ⟨by simpa [Dx.py, PyData.canLay0] using this.1, by simpa [Dx.py, PyData.depth] using this.2⟩
  | n + 1, .lst l, h => by
    have := Dx.oks_lay n l (by simpa [Dx.ok] using h)
    exact ⟨by simpa [Dx.py, PyData.canLay0] using this.1, by simpa [Dx.py, PyData.depth] using this.2⟩
  | 0, .tup _, h => by simp [Dx.ok] at h
  | 0, .lst _, h => by simp [Dx.ok] at h
  | _, .scr _, h => by simp [Dx.ok] at h
  | _, .rng _ _, h => by simp [Dx.ok] at h
  | _, .dic, h => by simp [Dx.ok] at h
  | _, .wh _, h => by simp [Dx.ok] at h
  | _, .raw _, h => by simp [Dx.ok] at h
theorem Dx.oks_lay : ∀ (n : Nat) (l : List Dx), Dx.oks n l = true → PyData.canLayAll0 (Dx.pys l) = true ∧ PyData.depthAll (Dx.pys l) ≤ n
  | _, [], _ => ⟨rfl, Nat.zero_le _⟩
  | n, d :: r, h => by
    have h' : Dx.ok n d = true ∧ Dx.oks n r = true := by simpa [Dx.oks] using h
    have a := Dx.ok_lay n d h'.1
    have b := Dx.oks_lay n r h'.2
    refine ⟨by simp [Dx.pys, PyData.canLayAll0, a.1, b.1], ?_⟩
    simp only [Dx.pys, PyData.depthAll]
    exact Nat.max_le.mpr ⟨a.2, b.2⟩
end
theorem Dx.ok_shaped {n : Nat} {d : Dx} (h : Dx.ok n d = true) (hn : n ≤ 64) : SeqAt.shaped (Dx.py d) = true := by
  have := Dx.ok_lay n d h
  unfold SeqAt.shaped
  rw [this.1, decide_eq_true (Nat.le_trans this.2 hn)]
  rfl
section
variable {K : PySem.W.Frag} {C : Addr} {G H : Hp}
mutual
theorem DX.dp (s : Same G H) : ∀ {n : Nat} {v : V} {d : Dx}, DX K C G v d → Dx.ok n d = true → Dp K H v (Dx.py d)
  | _, _, _, .non, _ => .non
  | _, _, _, .bl b, _ => .bl b
  | _, _, _, .int i, _ => .int i
  | _, _, _, .str x, _ => .str x
  | n, _, _, .tup h r, e => by
    cases n with
    | zero => simp [Dx.ok] at e
    | succ n => exact .tup (same_tup s h) (DXs.dp s r (n := n) (by simpa [Dx.ok] using e))
  | n, _, _, .lst h r, e => by
    cases n with
    | zero => simp [Dx.ok] at e
    | succ n => exact .lst (SqL.of (s _ _ h)) (DXs.dp s r (n := n) (by simpa [Dx.ok] using e))
  | _, _, _, .scr h, e => by simp [Dx.ok] at e
  | _, _, _, .rng h, e => by simp [Dx.ok] at e
  | _, _, _, .dic h, e => by simp [Dx.ok] at e
  | _, _, _, .wh h, e => by simp [Dx.ok] at e
  | _, _, _, .raw h, e => by simp [Dx.ok] at e
theorem DXs.dp (s : Same G H) : ∀ {n : Nat} {vs : List V} {ds : List Dx}, DXs K C G vs ds → Dx.oks n ds = true → DpAll K H vs (Dx.pys ds)
  | _, _, _, .nil, _ => .nil
  | n, _, _, .cons (d := d) (ds := l) a r, e => by
    have h' : Dx.ok n d = true ∧ Dx.oks n l = true := by simpa [Dx.oks] using e
    exact .cons (DX.dp s a (n := n) h'.1) (DXs.dp s r (n := n) h'.2)
end
end
section
variable {X : Cx} {F : Fm} {Γ : Gm} {a b : Expr} {pos : Pos} {d : Dx}
/-- == of two of the same data -/
theorem pd_eqD {n : Nat} (hu : X.A.units + 64 < cLine) (ha : PD X F Γ a d) (hb : PD X F Γ b d) (hk : Dx.ok n d = true) (hn : n ≤ 64 := by decide) : PD X F Γ (.Compare a [.Eq] [b] pos) (.bl true) :=
  pd_cmp (op_eqD hu) (nomark _) ha hb fun x y G H Q hx hy s k =>
    ⟨Dx.py d, Dx.py d, hx.dp s hk, hy.dp s hk, Dx.ok_shaped hk hn, Dx.ok_shaped hk hn, by
      rw [PySem.SeqAt.eqv_refl _ (Dx.ok_lay n d hk).1]
      exact k _ G H (.refl s) (.bl _)⟩
theorem pd_neD {n : Nat} (hu : X.A.units + 64 < cLine) (ha : PD X F Γ a d) (hb : PD X F Γ b d) (hk : Dx.ok n d = true) (hn : n ≤ 64 := by decide) : PD X F Γ (.Compare a [.NotEq] [b] pos) (.bl false) :=
  pd_cmp (op_neD hu) (nomark _) ha hb fun x y G H Q hx hy s k =>
    ⟨Dx.py d, Dx.py d, hx.dp s hk, hy.dp s hk, Dx.ok_shaped hk hn, Dx.ok_shaped hk hn, by
      rw [PySem.SeqAt.eqv_refl _ (Dx.ok_lay n d hk).1]
      exact k _ G H (.refl s) (.bl _)⟩
theorem td_neD {n : Nat} (hu : X.A.units + 64 < cLine) (ha : PD X F Γ a d) (hb : PD X F Γ b d) (hk : Dx.ok n d = true) (hn : n ≤ 64 := by decide) : TD X F Γ (.Compare a [.NotEq] [b] pos) false :=
  td_cmp (op_neD hu) (nomark _) ha hb fun x y G H Q hx hy s k =>
    ⟨Dx.py d, Dx.py d, hx.dp s hk, hy.dp s hk, Dx.ok_shaped hk hn, Dx.ok_shaped hk hn, by
      rw [PySem.SeqAt.eqv_refl _ (Dx.ok_lay n d hk).1]
      exact k _ G H (.refl s) (.bl _)⟩
end

/-! ### defs -/
/-- the slots at the entry -/
def Γ0 (n : Nat) (ds : List Dx) : Gm := ds.map (fun d => some (.d d)) ++ List.replicate (n - ds.length) none
theorem start_st {K : PySem.W.Frag} {C : Addr} {G H : Hp} {N : List Str} {vs : List V} {ds : List Dx} (s : Same G H) (h : DXs K C G vs ds) : ST K ⟨C, G, H⟩ (Γ0 N.length ds) G H (L2.start N vs) := by
  have hl := h.length
  refine ⟨?_, fun i x q => ?_, fun i j p l l' q => ?_, s, .refl s⟩
  · unfold L2.start Γ0
    rw [List.length_append, List.length_map, List.length_replicate, List.length_append, List.length_map, List.length_replicate, hl]
  · unfold Γ0 at q
    by_cases hi : i < ds.length
    · rw [List.getElem?_append_left (by simpa using hi), List.getElem?_map, List.getElem?_eq_getElem hi] at q
      cases q
      obtain ⟨v, h1, h2⟩ := h.get (List.getElem?_eq_getElem hi)
      refine ⟨v, ?_, h2⟩
      unfold L2.start
      rw [List.getElem?_append_left (by simpa [hl] using hi), List.getElem?_map, h1]
      rfl
    · rw [List.getElem?_append_right (by simpa using hi), List.getElem?_replicate] at q
      split at q <;> cases q
  · unfold Γ0 at q
    by_cases hi : i < ds.length
    · rw [List.getElem?_append_left (by simpa using hi), List.getElem?_map, List.getElem?_eq_getElem hi] at q
      cases q
    · rw [List.getElem?_append_right (by simpa using hi), List.getElem?_replicate] at q
      split at q <;> cases q
section
variable {P : Program} {w : World} {K : PySem.W.Frag} {mg : Str → Option Value} {base : Heap} {C : Addr}
abbrev BX (P : Program) (w : World) (K : PySem.W.Frag) (mg : Str → Option Value) (base : Heap) (N : List Str) (qual : Str) (st : Stmt) (f : Addr) (cdv : Value) (A : Around) (outer : List Env) (s : Shared) (H : Hp) (E : XK) : Cx := (cxOf CX0 P w K mg base N qual (defScope st) f cdv A outer s H E).nox
/-- a def keeps what R says, by its body -/
theorem Fun.okD {x qual : Str} {st : Stmt} {f : Addr} {fd : FuncData} {N ps : List Str} {k : Nat} {R : List Dx → Dx → Prop} (Fn : Fun K x qual st f fd) (S : FnScope N ps (defScope st)) (len : ∀ ds d, R ds d → ds.length = ps.length)
    (hb : ∀ (cdv : Value) (A : Around) (outer : List Env) (s : Shared) (H : Hp) (E : XK) (G0 H0 : Hp) (ds : List Dx) (d : Dx), Room k (BX P w K mg base N qual st f cdv A outer s H E).A → R ds d →
      BB (BX P w K mg base N qual st f cdv A outer s H E) ⟨C, G0, H0⟩ (Γ0 N.length ds) (defBody st) (fun _ => d = .non) (fun d' => d' = d)) : FnOk P w K mg base CX0 (k + 1) f fd ps (SpF K C R) := by
  refine Fn.ok S (fun vs H Q E h => ?_) (fun cdv A outer s H vs Q E hr h => ?_)
  · obtain ⟨G, ds, d, _, dx, hR, _⟩ := h
    rw [dx.length]
    exact len ds d hR
  · obtain ⟨G, ds, d, sm, dx, hR, q⟩ := h
    refine ⟨_, hb cdv A outer s H E G H ds d hr hR, G, start_st sm dx, fun Γ' σ' G' H' st' _ hn => ?_, fun v d' G' H' e dv hd => ?_⟩
    · refine q .non G' H' st'.ext ?_
      rw [hn]
      exact .non
    · subst hd
      exact q v G' H' e dv
theorem pd_gk {X : Cx} {F : Fm} {Γ : Gm} {x : Str} {pos : Pos} {d : Dx} (h : ∃ a, X.mg x = some (.ref a) ∧ ∀ G, DX X.K F.C G (.ref a) d) (hg : Gl X x := by rfl) (hdb : (x == ("__debug__" : Str)) = false := by decide) : PD X F Γ (.Name x pos) d := by
  obtain ⟨a, h1, h2⟩ := h
  exact pd_glob (v := .ref a) h1 rfl h2 hg hdb
theorem Df.mk {CX : CXT} {k : Nat} {x : Str} {ps : List Str} {sp : Sp} {f : Addr} {fd : FuncData} (ok : FnOk P w K mg base CX k f fd ps sp) (hm : mg x = some (.ref f)) (hk : PySem.W.keepIn K (.ref f) = true) (hb : Binds K fd ps []) : Df P w K mg base CX k x ps sp := ⟨f, fd, ok, hm, hk, hb⟩
end
end Lap
set_option maxHeartbeats 4000000
/-! The data layer: a dict of the def's own, by text keys, truth values within. -/
namespace Lap
open PySem PySem.Spec L2
open PyProof.Rows hiding St
section
variable {X : Cx} {F : Fm} {Γ : Gm} {a b e : Expr} {x : Str} {p pos pos' : Pos} {N : Gm → Prop} {R : Dx → Prop}
/-- the pairs of a display, text keys, truth values -/
abbrev tPs (K : PySem.W.Frag) (F : Fm) (Γ : Gm) (kbs : List (Str × Bool)) : List (TE × TE) := kbs.map fun q => (tD K F Γ (.str q.1), tD K F Γ (.bl q.2))
def kvB (kbs : List (Str × Bool)) : List (Key × V) := kbs.map fun q => (Sum.inr q.1, V.bl q.2)
theorem pairs_read {K : PySem.W.Frag} {σ : St} : ∀ {kbs : List (Str × Bool)} {G H : Hp} {Q : List (V × V) → Hp → Prop}, ST K F Γ G H σ →
    (∀ G' H', Ext4 G H G' H' → Q ((kvB kbs).map fun kv => (kV kv.1, kv.2)) H') → tPairs (tPs K F Γ kbs) σ H Q
  | [], G, H, Q, st, q => q G H (.refl st.same)
  | kb :: r, G, H, Q, st, q => ⟨G, st, fun v G1 H1 e1 dv => ⟨G1, st.step e1, fun u G2 H2 e2 du => pairs_read ((st.step e1).step e2) fun G3 H3 e3 => by
      cases dv
      cases du
      exact q G3 H3 ((e1.trans e2).trans e3)⟩⟩
/-- x = {k: e, ..} -/
theorem ss_setDct (i : Nat) {keys : List (Option Expr)} {vals : List Expr} {kbs : List (Str × Bool)} (hN : X.N.Nodup) (h : PPs X p keys vals (tPs X.K F Γ kbs)) (hn : N (Γ.set i (some (.dct (mergeK [] (kvB kbs)))))) (hl : Nat.ble kbs.length 15 = true := by rfl)
    (hall : keys.all (·.isSome) = true := by rfl) (hlen : keys.length = vals.length := by rfl) (h0 : keys ≠ [] := by exact fun z => by cases z) (h15 : keys.length ≤ 15 := by show (_ : Nat) ≤ 15; decide)
    (hi : X.N[i]? = some x := by rfl) (hx : Loc X.env.scope x := by first | exact Or.inl rfl | exact Or.inr rfl) (hs : swapsWith (.Dict keys vals p) (some (.Name x pos')) pos.line X.env = pure false := by rfl)
    (hf : X.fn x = true ∨ X.env.scope.names.lookup x = some .local := by first | exact .inl rfl | exact .inr rfl | assumption) : SS X F Γ (.Assign [.Name x pos'] (.Dict keys vals p) pos) N R :=
  ps_imp (ps_set hN hi hx (pe_disp h hall hlen h0 h15) hs hf) fun D σ H ⟨G, st, n, r⟩ => by
    intro q hq
    have e0 : Ext4 G H G (upd H q (.dK [])) := .own st.same hq
    refine pairs_read (st.step e0) fun G1 H1 e1 => ?_
    have hq1 : H1 q = some (.dK []) := e1.h _ _ upd_same
    have gq : G1 q = none := e1.n q (st.same.free hq) (by rw [upd_same]; exact fun z => by cases z)
    refine ⟨hq1, kvB kbs, rfl, by unfold kvB; rw [List.length_map]; exact Nat.le_of_ble_eq_true hl, ?_⟩
    have fq : F.H q = none := st.ext.h.free hq
    have st1 := (st.step e0).step e1
    have st2 : ST X.K F Γ G1 (upd H1 q (.dK (mergeK [] (kvB kbs)))) σ := st1.touch gq fq fun j s z nd w => by
      obtain ⟨v, h1, h2⟩ := st.sl j s z
      rw [w] at h1
      cases h1
      cases s with
      | d y => exact nd y rfl
      | own m =>
        obtain ⟨c, zs, ee, _, _, z3, _⟩ := h2
        cases ee
        rw [hq] at z3
        cases z3
      | dct m =>
        obtain ⟨c, ee, _, _, z3⟩ := h2
        cases ee
        rw [hq] at z3
        cases z3
    exact n _ _ G1 _ (st2.putDct fq gq upd_same) e1.g hn
/-- no slot but i holds a dict -/
def oneDct (Γ : Gm) (i : Nat) : Bool := (List.range Γ.length).all fun j => j == i || match Γ[j]? with
  | some (some (.dct _)) => false
  | _ => true
theorem oneDct_ok {i : Nat} (h : oneDct Γ i = true) : ∀ (j : Nat) (m : List (Key × V)), Γ[j]? = some (some (.dct m)) → j = i := fun j m q => by
  have hj : j < Γ.length := (List.getElem?_eq_some_iff.mp q).1
  have := List.all_eq_true.mp h j (List.mem_range.mpr hj)
  rw [q] at this
  simpa using this
/-- x[k] = e -/
theorem ss_dput (i : Nat) {l : List (Key × V)} {k : Str} {y : Bool} (hu : X.A.units + 1 < cLine) (hk : PD X F Γ b (.str k)) (he : PD X F Γ e (.bl y)) (hn : N (Γ.set i (some (.dct (putK l (Sum.inr k) (.bl y)))))) (hΓ : Γ[i]? = some (some (.dct l)) := by rfl) (hl : Nat.ble l.length 1000 = true := by rfl) (h1 : oneDct Γ i = true := by rfl)
    (hN : X.N[i]? = some x := by rfl) (hv : Vis X.env.scope x := by first | exact Or.inl rfl | exact Or.inr (Or.inl rfl) | exact Or.inr (Or.inr rfl))
    (hd : (x == ("__debug__" : Str)) = false := by decide) (hcd : (x == ("__classdict__" : Str)) = false := by decide) (hs : swapsWith e (some (.Subscript (.Name x p) b pos')) pos.line X.env = pure false := by rfl) :
    SS X F Γ (.Assign [.Subscript (.Name x p) b pos'] e pos) N R :=
  ps_imp (ps_dput hu (pe_var hN hv hd hcd) hk he hs) fun D σ H ⟨G, st, n, r⟩ => ⟨G, st, fun v G1 H1 e1 dv => by
    have st1 := st.step e1
    obtain ⟨u, hs1, q, rfl, z1, z2, z3⟩ := st1.sl i _ hΓ
    refine ⟨_, hs1, G1, st1, fun z G2 H2 e2 dz => ?_⟩
    cases dv
    cases dz
    have h3 := e2.h _ _ z3
    refine ⟨q, _, rfl, DPut.k (k := Sum.inr k) h3 (Nat.lt_of_le_of_lt (Nat.le_of_ble_eq_true hl) (show 1000 < sizeLine by decide)), ?_⟩
    exact n _ _ G2 _ ((st1.step e2).dput hΓ hs1 (oneDct_ok h1)) (e1.g.trans e2.g) hn⟩
/-- x[k] of the def's own dict -/
theorem pd_dget (i : Nat) {l : List (Key × V)} {k : Str} {y : Bool} (hu : X.A.units + 1 < cLine) (hk : PD X F Γ b (.str k)) (hy : valV l (Sum.inr k) = some (.bl y)) (hΓ : Γ[i]? = some (some (.dct l)) := by rfl) (hN : X.N[i]? = some x := by rfl)
    (hv : Vis X.env.scope x := by first | exact Or.inl rfl | exact Or.inr (Or.inl rfl) | exact Or.inr (Or.inr rfl)) (hd : (x == ("__debug__" : Str)) = false := by decide) (hcd : (x == ("__classdict__" : Str)) = false := by decide) (hs : NoSl b := by exact fun _ _ => rfl) :
    PD X F Γ (.Subscript (.Name x p) b pos) (.bl y) :=
  pe_imp (pe_dget hu (pe_var hN hv hd hcd) hk hs) fun σ H Q ⟨G, st, q⟩ => by
    obtain ⟨u, hs1, a, rfl, z1, z2, z3⟩ := st.sl i _ hΓ
    refine ⟨_, hs1, G, st, fun z G2 H2 e2 dz => ?_⟩
    cases dz
    refine ⟨a, .bl y, rfl, ?_, q _ G2 H2 e2 (.bl y)⟩
    rw [← hy]
    exact DGet.k (k := Sum.inr k) (e2.h _ _ z3)
end
/-- what is kept of the keys -/
def gD (l : List (Key × V)) : Dx → Option Dx
  | .str k => match valV l (Sum.inr k) with
    | some (.bl true) => some (.str k)
    | _ => none
  | _ => none
end Lap
set_option maxHeartbeats 4000000
/-! The text by places: printed by gen.py. -/
namespace Lap
open PySem PySem.Spec L2
open PyProof.Rows hiding St
def topS (i : Nat) : Stmt := PySem.Challenge.pw_lapnumbers_k02_whole_states.main.body.getD i (.Pass ⟨0, 0, 0, 0⟩)
abbrev s_BadHistoryInit : Stmt := inClass (topS 6) 0
abbrev n_BadHistoryInit : List Str := ["self", "index", "__class__"]
abbrev s_is_whole : Stmt := topS 10
abbrev n_is_whole : List Str := ["value", "low", "high"]
theorem c_is_whole : FnScope n_is_whole ["value", "low", "high"] (defScope s_is_whole) := ⟨rfl, rfl, rfl, by decide +kernel, rfl, by decide +kernel, by decide +kernel⟩
abbrev s_all_for : Stmt := topS 11
abbrev n_all_for : List Str := ["size", "name"]
theorem c_all_for : FnScope n_all_for ["size", "name"] (defScope s_all_for) := ⟨rfl, rfl, rfl, by decide +kernel, rfl, by decide +kernel, by decide +kernel⟩
abbrev s_can_be : Stmt := topS 12
abbrev n_can_be : List Str := ["size", "name", "value"]
theorem c_can_be : FnScope n_can_be ["size", "name", "value"] (defScope s_can_be) := ⟨rfl, rfl, rfl, by decide +kernel, rfl, by decide +kernel, by decide +kernel⟩
abbrev s_WheelInit : Stmt := inClass (topS 13) 0
abbrev n_WheelInit : List Str := ["self", "size", "freeze", "stop", "hold", "cut", "name", "value"]
theorem c_WheelInit : FnScope n_WheelInit ["self", "size", "freeze", "stop", "hold", "cut"] (defScope s_WheelInit) := ⟨rfl, rfl, rfl, by decide +kernel, rfl, by decide +kernel, by decide +kernel⟩
abbrev s_check_wheel : Stmt := topS 14
abbrev n_check_wheel : List Str := ["value"]
theorem c_check_wheel : FnScope n_check_wheel ["value"] (defScope s_check_wheel) := ⟨rfl, rfl, rfl, by decide +kernel, rfl, by decide +kernel, by decide +kernel⟩
abbrev s_before : Stmt := topS 15
abbrev n_before : List Str := ["wheel", "age", "picture"]
theorem c_before : FnScope n_before ["wheel", "age", "picture"] (defScope s_before) := ⟨rfl, rfl, rfl, by decide +kernel, rfl, by decide +kernel, by decide +kernel⟩
abbrev s_is_age : Stmt := topS 16
abbrev n_is_age : List Str := ["wheel", "value"]
theorem c_is_age : FnScope n_is_age ["wheel", "value"] (defScope s_is_age) := ⟨rfl, rfl, rfl, by decide +kernel, rfl, by decide +kernel, by decide +kernel⟩
abbrev s_is_age_or_none : Stmt := topS 20
abbrev n_is_age_or_none : List Str := ["wheel", "value"]
theorem c_is_age_or_none : FnScope n_is_age_or_none ["wheel", "value"] (defScope s_is_age_or_none) := ⟨rfl, rfl, rfl, by decide +kernel, rfl, by decide +kernel, by decide +kernel⟩
abbrev s_is_row : Stmt := topS 21
abbrev n_is_row : List Str := ["wheel", "value", "one"]
theorem c_is_row : FnScope n_is_row ["wheel", "value"] (defScope s_is_row) := ⟨rfl, rfl, rfl, by decide +kernel, rfl, by decide +kernel, by decide +kernel⟩
abbrev s_is_reader : Stmt := topS 22
abbrev n_is_reader : List Str := ["wheel", "value"]
theorem c_is_reader : FnScope n_is_reader ["wheel", "value"] (defScope s_is_reader) := ⟨rfl, rfl, rfl, by decide +kernel, rfl, by decide +kernel, by decide +kernel⟩
abbrev s_is_state : Stmt := topS 23
abbrev n_is_state : List Str := ["wheel", "value"]
theorem c_is_state : FnScope n_is_state ["wheel", "value"] (defScope s_is_state) := ⟨rfl, rfl, rfl, by decide +kernel, rfl, by decide +kernel, by decide +kernel⟩
abbrev s_check_state : Stmt := topS 24
abbrev n_check_state : List Str := ["wheel", "state"]
theorem c_check_state : FnScope n_check_state ["wheel", "state"] (defScope s_check_state) := ⟨rfl, rfl, rfl, by decide +kernel, rfl, by decide +kernel, by decide +kernel⟩
abbrev s_is_stopped : Stmt := topS 25
abbrev n_is_stopped : List Str := ["wheel", "state"]
theorem c_is_stopped : FnScope n_is_stopped ["wheel", "state"] (defScope s_is_stopped) := ⟨rfl, rfl, rfl, by decide +kernel, rfl, by decide +kernel, by decide +kernel⟩
abbrev s_sees : Stmt := topS 26
abbrev n_sees : List Str := ["wheel", "row", "picture", "written", "struck"]
theorem c_sees : FnScope n_sees ["wheel", "row", "picture"] (defScope s_sees) := ⟨rfl, rfl, rfl, by decide +kernel, rfl, by decide +kernel, by decide +kernel⟩
abbrev s_is_there : Stmt := topS 27
abbrev n_is_there : List Str := ["row"]
theorem c_is_there : FnScope n_is_there ["row"] (defScope s_is_there) := ⟨rfl, rfl, rfl, by decide +kernel, rfl, by decide +kernel, by decide +kernel⟩
abbrev s_older : Stmt := topS 28
abbrev n_older : List Str := ["wheel", "age"]
theorem c_older : FnScope n_older ["wheel", "age"] (defScope s_older) := ⟨rfl, rfl, rfl, by decide +kernel, rfl, by decide +kernel, by decide +kernel⟩
abbrev s_numbered : Stmt := topS 29
abbrev n_numbered : List Str := ["wheel", "state", "row", "reader", "table"]
theorem c_numbered : FnScope n_numbered ["wheel", "state"] (defScope s_numbered) := ⟨rfl, rfl, rfl, by decide +kernel, rfl, by decide +kernel, by decide +kernel⟩
abbrev s_is_held : Stmt := topS 30
abbrev n_is_held : List Str := ["wheel", "state"]
theorem c_is_held : FnScope n_is_held ["wheel", "state"] (defScope s_is_held) := ⟨rfl, rfl, rfl, by decide +kernel, rfl, by decide +kernel, by decide +kernel⟩
abbrev s_is_ripe : Stmt := topS 31
abbrev n_is_ripe : List Str := ["wheel", "state", "age"]
theorem c_is_ripe : FnScope n_is_ripe ["wheel", "state", "age"] (defScope s_is_ripe) := ⟨rfl, rfl, rfl, by decide +kernel, rfl, by decide +kernel, by decide +kernel⟩
abbrev s_passed : Stmt := topS 32
abbrev n_passed : List Str := ["wheel", "state", "row", "reader", "table", "most", "late"]
theorem c_passed : FnScope n_passed ["wheel", "state"] (defScope s_passed) := ⟨rfl, rfl, rfl, by decide +kernel, rfl, by decide +kernel, by decide +kernel⟩
abbrev s_deeds_in : Stmt := topS 33
abbrev n_deeds_in : List Str := ["wheel", "state", "row", "reader", "table", "is_free", "can", "deed"]
theorem c_deeds_in : FnScope n_deeds_in ["wheel", "state"] (defScope s_deeds_in) := ⟨rfl, rfl, rfl, by decide +kernel, rfl, by decide +kernel, by decide +kernel⟩
abbrev s_done : Stmt := topS 34
abbrev n_done : List Str := ["wheel", "state", "deed", "row", "reader", "table"]
theorem c_done : FnScope n_done ["wheel", "state", "deed"] (defScope s_done) := ⟨rfl, rfl, rfl, by decide +kernel, rfl, by decide +kernel, by decide +kernel⟩
abbrev s_is_deed : Stmt := topS 35
abbrev n_is_deed : List Str := ["wheel", "state", "value"]
theorem c_is_deed : FnScope n_is_deed ["wheel", "state", "value"] (defScope s_is_deed) := ⟨rfl, rfl, rfl, by decide +kernel, rfl, by decide +kernel, by decide +kernel⟩
abbrev s_walked : Stmt := topS 36
abbrev n_walked : List Str := ["wheel", "history", "state", "found", "deed"]
theorem c_walked : FnScope n_walked ["wheel", "history"] (defScope s_walked) := ⟨rfl, rfl, rfl, by decide +kernel, rfl, by decide +kernel, by decide +kernel⟩
abbrev s_check_history : Stmt := topS 37
abbrev n_check_history : List Str := ["wheel", "history", "found"]
theorem c_check_history : FnScope n_check_history ["wheel", "history"] (defScope s_check_history) := ⟨rfl, rfl, rfl, by decide +kernel, rfl, by decide +kernel, by decide +kernel⟩
abbrev s_first_state : Stmt := topS 38
abbrev n_first_state : List Str := ["wheel"]
theorem c_first_state : FnScope n_first_state ["wheel"] (defScope s_first_state) := ⟨rfl, rfl, rfl, by decide +kernel, rfl, by decide +kernel, by decide +kernel⟩
abbrev s_deeds : Stmt := topS 39
abbrev n_deeds : List Str := ["wheel", "state"]
theorem c_deeds : FnScope n_deeds ["wheel", "state"] (defScope s_deeds) := ⟨rfl, rfl, rfl, by decide +kernel, rfl, by decide +kernel, by decide +kernel⟩
abbrev s_sights : Stmt := topS 40
abbrev n_sights : List Str := ["wheel", "state", "row", "reader", "table"]
theorem c_sights : FnScope n_sights ["wheel", "state"] (defScope s_sights) := ⟨rfl, rfl, rfl, by decide +kernel, rfl, by decide +kernel, by decide +kernel⟩
abbrev s_after : Stmt := topS 41
abbrev n_after : List Str := ["wheel", "state", "deed"]
theorem c_after : FnScope n_after ["wheel", "state", "deed"] (defScope s_after) := ⟨rfl, rfl, rfl, by decide +kernel, rfl, by decide +kernel, by decide +kernel⟩
abbrev s_told : Stmt := topS 42
abbrev n_told : List Str := ["wheel", "history"]
theorem c_told : FnScope n_told ["wheel", "history"] (defScope s_told) := ⟨rfl, rfl, rfl, by decide +kernel, rfl, by decide +kernel, by decide +kernel⟩
abbrev s_law_number : Stmt := topS 44
abbrev n_law_number : List Str := ["_law_script", "_law_index", "_law_cells", "_law_cell", "_law_low", "_law_high", "_law_total", "_law_blend"]
theorem c_law_number : FnScope n_law_number ["_law_script", "_law_index"] (defScope s_law_number) := ⟨rfl, rfl, rfl, by decide +kernel, rfl, by decide +kernel, by decide +kernel⟩
abbrev s_law_rules : Stmt := topS 45
abbrev n_law_rules : List Str := ["_law_script", "_law_at", "_law_seed", "_law_more", "_law_size", "_law_limit", "_law_ripe"]
theorem c_law_rules : FnScope n_law_rules ["_law_script", "_law_at"] (defScope s_law_rules) := ⟨rfl, rfl, rfl, by decide +kernel, rfl, by decide +kernel, by decide +kernel⟩
abbrev s_law_made : Stmt := topS 46
abbrev n_law_made : List Str := ["_law_rules_here"]
theorem c_law_made : FnScope n_law_made ["_law_rules_here"] (defScope s_law_made) := ⟨rfl, rfl, rfl, by decide +kernel, rfl, by decide +kernel, by decide +kernel⟩
abbrev s_law_ahead : Stmt := topS 47
abbrev n_law_ahead : List Str := ["_law_rules_here", "_law_age", "_law_picture"]
theorem c_law_ahead : FnScope n_law_ahead ["_law_rules_here", "_law_age", "_law_picture"] (defScope s_law_ahead) := ⟨rfl, rfl, rfl, by decide +kernel, rfl, by decide +kernel, by decide +kernel⟩
abbrev s_law_sees : Stmt := topS 48
abbrev n_law_sees : List Str := ["_law_rules_here", "_law_row", "_law_picture"]
theorem c_law_sees : FnScope n_law_sees ["_law_rules_here", "_law_row", "_law_picture"] (defScope s_law_sees) := ⟨rfl, rfl, rfl, by decide +kernel, rfl, by decide +kernel, by decide +kernel⟩
abbrev s_law_is_shut : Stmt := topS 49
abbrev n_law_is_shut : List Str := ["_law_rules_here", "_law_state"]
theorem c_law_is_shut : FnScope n_law_is_shut ["_law_rules_here", "_law_state"] (defScope s_law_is_shut) := ⟨rfl, rfl, rfl, by decide +kernel, rfl, by decide +kernel, by decide +kernel⟩
abbrev s_law_aged : Stmt := topS 50
abbrev n_law_aged : List Str := ["_law_rules_here", "_law_state", "_law_row", "_law_reader", "_law_table", "_law_age"]
theorem c_law_aged : FnScope n_law_aged ["_law_rules_here", "_law_state"] (defScope s_law_aged) := ⟨rfl, rfl, rfl, by decide +kernel, rfl, by decide +kernel, by decide +kernel⟩
abbrev s_law_passed : Stmt := topS 51
abbrev n_law_passed : List Str := ["_law_rules_here", "_law_state", "_law_row", "_law_reader", "_law_table", "_law_pictures", "_law_most", "_law_one"]
theorem c_law_passed : FnScope n_law_passed ["_law_rules_here", "_law_state"] (defScope s_law_passed) := ⟨rfl, rfl, rfl, by decide +kernel, rfl, by decide +kernel, by decide +kernel⟩
abbrev s_law_moves : Stmt := topS 52
abbrev n_law_moves : List Str := ["_law_rules_here", "_law_state", "_law_row", "_law_reader", "_law_table", "_law_found", "_law_late"]
theorem c_law_moves : FnScope n_law_moves ["_law_rules_here", "_law_state"] (defScope s_law_moves) := ⟨rfl, rfl, rfl, by decide +kernel, rfl, by decide +kernel, by decide +kernel⟩
abbrev s_law_any_state : Stmt := topS 53
abbrev n_law_any_state : List Str := ["_law_script", "_law_at", "_law_size", "_law_seed", "_law_more", "_law_ages", "_law_row", "_law_reader"]
theorem c_law_any_state : FnScope n_law_any_state ["_law_script", "_law_at", "_law_size"] (defScope s_law_any_state) := ⟨rfl, rfl, rfl, by decide +kernel, rfl, by decide +kernel, by decide +kernel⟩
abbrev s_law_state_right : Stmt := topS 54
abbrev n_law_state_right : List Str := ["_law_wheel", "_law_rules_here", "_law_state", "_law_rows", "_law_seen", "_law_row", "_law_deed", "_law_late"]
theorem c_law_state_right : FnScope n_law_state_right ["_law_wheel", "_law_rules_here", "_law_state"] (defScope s_law_state_right) := ⟨rfl, rfl, rfl, by decide +kernel, rfl, by decide +kernel, by decide +kernel⟩
abbrev s_law_bad : Stmt := topS 55
abbrev n_law_bad : List Str := ["_law_wheel", "_law_history", "error"]
theorem c_law_bad : FnScope n_law_bad ["_law_wheel", "_law_history"] (defScope s_law_bad) := ⟨rfl, rfl, rfl, by decide +kernel, rfl, by decide +kernel, by decide +kernel⟩
abbrev s_law_is_refused : Stmt := topS 56
abbrev n_law_is_refused : List Str := ["_law_wheel", "_law_state", "_law_deed"]
theorem c_law_is_refused : FnScope n_law_is_refused ["_law_wheel", "_law_state", "_law_deed"] (defScope s_law_is_refused) := ⟨rfl, rfl, rfl, by decide +kernel, rfl, by decide +kernel, by decide +kernel⟩
abbrev s_law : Stmt := topS 57
abbrev n_law : List Str := ["_law_script", "_law_odd", "_law_turn", "_law_rules_here", "_law_wheel", "_law_state", "_law_history", "_law_rows", "_law_step", "_law_some", "_law_deed", "_law_other", "_law_can", "_law_words", "_law_seed", "_law_thing", "_law_spot", "_law_late", "_law_word"]
theorem c_law : FnScope n_law ["_law_script"] (defScope s_law) := ⟨rfl, rfl, rfl, by decide +kernel, rfl, by decide +kernel, by decide +kernel⟩
end Lap
set_option maxHeartbeats 4000000
/-! The mirror: what the program's defs reckon, over plain data. -/
namespace Lap
open PySem PySem.Spec L2
open PyProof.Rows hiding St

abbrev Row := Option (Option Int × Option Int)
abbrev Rdr := Option (Int × Bool)
structure SR where
  row : Row
  rd : Rdr
  tb : Int
def dRow : Row → Dx
  | none => .non
  | some (w, k) => .tup [optD w, optD k]
def dRd : Rdr → Dx
  | none => .non
  | some (p, b) => .tup [.int p, .bl b]
def dS (s : SR) : Dx := .tup [dRow s.row, dRd s.rd, .int s.tb]
/-- the rules as the law holds them -/
def dR (r : Wr) : Dx := .tup [.int r.size, .int r.freeze, optD r.stop, .str (holdS r.hold), optD r.cut]

/-! ### what is right of a wheel, of a state -/
def Wr.Ok (r : Wr) : Prop := (r.size = 4 ∨ r.size = 6) ∧ (0 ≤ r.freeze ∧ r.freeze ≤ r.size / 2) ∧ (∀ k, r.stop = some k → 1 ≤ k ∧ k ≤ r.size) ∧ (∀ k, r.cut = some k → 1 ≤ k ∧ k ≤ r.size)
def Ag (r : Wr) (a : Int) : Prop := 0 ≤ a ∧ a ≤ r.size - 1
def OAg (r : Wr) (o : Option Int) : Prop := ∀ a, o = some a → Ag r a
def RowOk (r : Wr) (o : Row) : Prop := ∀ w k, o = some (w, k) → OAg r w ∧ OAg r k
def RdOk (r : Wr) (o : Rdr) : Prop := ∀ p b, o = some (p, b) → Ag r p
def SR.Ok (r : Wr) (s : SR) : Prop := RowOk r s.row ∧ RdOk r s.rd ∧ 0 ≤ s.tb ∧ s.tb ≤ r.size

/-! ### the program -/
def bef (r : Wr) (a p : Int) : Bool := decide (2 * ((a - p) % r.size) < r.size)
def stopd (r : Wr) (s : SR) : Bool := match r.stop with
  | none => false
  | some k => decide (k ≤ s.tb)
def wB (r : Wr) (w : Option Int) (p : Int) : Bool := match w with
  | none => true
  | some a => bef r a p
def kB (r : Wr) (k : Option Int) (p : Int) : Bool := match k with
  | none => true
  | some a => !bef r a p
def seesM (r : Wr) (o : Row) (p : Int) : Bool := match o with
  | none => false
  | some (w, k) => wB r w p && kB r k p
def there (o : Row) : Bool := match o with
  | some (_, none) => true
  | _ => false
def olderM (r : Wr) (o : Option Int) : Option Int := o.map fun a => (a + 1) % r.size
def rowN (r : Wr) (o : Row) : Row := o.map fun p => (olderM r p.1, olderM r p.2)
def rdN (r : Wr) (o : Rdr) : Rdr := match o with
  | none => none
  | some (p, b) => match r.cut with
    | none => some ((p + 1) % r.size, b)
    | some c => if c ≤ (p + 1) % r.size then none else some ((p + 1) % r.size, b)
def tbN (r : Wr) (t : Int) : Int := if r.size < t + 1 then r.size else t + 1
def numM (r : Wr) (s : SR) : SR := ⟨rowN r s.row, rdN r s.rd, tbN r s.tb⟩
def ripeM (r : Wr) (d : Rdr) (o : Option Int) : Bool := match o with
  | none => false
  | some a => bef r a 0 && (match d with | none => true | some (p, _) => !r.hold || bef r a p)
def mostM (r : Wr) (d : Rdr) : Int := match d with
  | none => r.freeze
  | some (p, _) => if r.hold then (if p > r.freeze then p else r.freeze) else r.freeze
def rowP (r : Wr) (d : Rdr) (o : Row) : Row := match o with
  | none => none
  | some (w, k) => if ripeM r d k then none else match w with
    | none => some (w, k)
    | some a => if ripeM r d (some a) && decide (r.freeze ≤ a) then some (none, k) else some (w, k)
def passM (r : Wr) (s : SR) : SR := ⟨rowP r s.rd s.row, s.rd, if mostM r s.rd < s.tb then mostM r s.rd else s.tb⟩
def deedsM (r : Wr) (s : SR) : List Str :=
  (if stopd r s then [] else [("tick" : Str)]) ++ (if stopd r s then [] else if s.row.isNone then [("write" : Str)] else []) ++ (if stopd r s then [] else if there s.row then [("strike" : Str)] else []) ++
  (if s.rd.isNone then [("open" : Str)] else [("close" : Str)]) ++ [("pass" : Str)]
def rowK (o : Row) : Row := match o with
  | none => none
  | some (w, _) => some (w, some 0)
def doneM (r : Wr) (s : SR) (d : Str) : SR :=
  if d = "pass" then passM r s else if d = "open" then ⟨s.row, some (0, there s.row), s.tb⟩ else if d = "close" then ⟨s.row, none, s.tb⟩ else
  if d = "write" then ⟨some (some 0, none), (numM r s).rd, (numM r s).tb⟩ else if d = "strike" then ⟨rowK (numM r s).row, (numM r s).rd, (numM r s).tb⟩ else numM r s

/-! ### what the top has written -/
structure Tx (K : PySem.W.Frag) (mg : Str → Option Value) (C : Addr) : Prop where
  f_isinstance : mg "isinstance" = none
  f_len : mg "len" = none
  f_all : mg "all" = none
  f_max : mg "max" = none
  f_min : mg "min" = none
  f_int : mg "int" = none
  f_sum : mg "sum" = none
  f_tuple : mg "tuple" = none
  f_list : mg "list" = none
  f_range : mg "range" = none
  f_zip : mg "zip" = none
  f_str : mg "str" = none
  f_bool : mg "bool" = none
  wt : WhT K C
  mgW : mg "Wheel" = some (.ref C)
  k_SIZES : ∃ a, mg "SIZES" = some (.ref a) ∧ ∀ G, DX K C G (.ref a) (.tup [.int 4, .int 6, .int 8])
  k_RULES : ∃ a, mg "RULES" = some (.ref a) ∧ ∀ G, DX K C G (.ref a) (.tup [.str "freeze", .str "stop", .str "hold", .str "cut"])
  k_DEEDS : ∃ a, mg "DEEDS" = some (.ref a) ∧ ∀ G, DX K C G (.ref a) (.tup [.str "tick", .str "write", .str "strike", .str "open", .str "close", .str "pass"])
  k_START : ∃ a, mg "START" = some (.ref a) ∧ ∀ G, DX K C G (.ref a) (.tup [.non, .non, .int 0])
end Lap
set_option maxHeartbeats 4000000
/-! The program's defs, first part. -/
namespace Lap
open PySem PySem.Spec L2
open PyProof.Rows hiding St
section
variable {P : Program} {w : World} {K : PySem.W.Frag} {mg : Str → Option Value} {base : Heap} {C : Addr} {f : Addr} {fd : FuncData}

def R_is_whole (ds : List Dx) (d : Dx) : Prop := ∃ i lo hi : Int, ds = [.int i, .int lo, .int hi] ∧ d = .bl (decide (lo ≤ i) && decide (i ≤ hi))
theorem ok_is_whole (Fn : Fun K "is_whole" "is_whole" s_is_whole f fd) (T : Tx K mg C) : FnOk P w K mg base CX0 1 f fd ["value", "low", "high"] (SpF K C R_is_whole) := by
  refine Fun.okD Fn c_is_whole ?_ ?_
  · rintro ds d ⟨i, lo, hi, rfl, rfl⟩; rfl
  · rintro cdv A outer s H E G0 H0 ds d hr ⟨i, lo, hi, rfl, rfl⟩
    refine bb_one (ss_ret (pd_and (pd_isi (T := "int") (k := true) (pd_v 0) rfl (by decide +kernel) T.f_isinstance T.f_int) (fun h => (pd_and (pd_not (pd_isi (T := "bool") (k := false) (pd_v 0) rfl (by decide +kernel) T.f_isinstance T.f_bool)) (fun h => (pd_one (pd_chainLe (pd_v 1) (pd_v 0) (pd_v 2))))))) ?_)
    rfl

def R_before (ds : List Dx) (d : Dx) : Prop := ∃ (r : Wr) (a p : Int), ds = [.wh r, .int a, .int p] ∧ r.Ok ∧ d = .bl (bef r a p)
theorem ok_before (Fn : Fun K "before" "before" s_before f fd) (T : Tx K mg C) : FnOk P w K mg base CX0 1 f fd ["wheel", "age", "picture"] (SpF K C R_before) := by
  refine Fun.okD Fn c_before ?_ ?_
  · rintro ds d ⟨r, a, p, rfl, _, rfl⟩; rfl
  · rintro cdv A outer s H E G0 H0 ds d hr ⟨r, a, p, rfl, ok, rfl⟩
    have hs : 0 < r.size := by rcases ok.1 with h | h <;> omega
    refine bb_one (ss_ret (pd_lt (pd_mul pd_int (pd_mod (pd_sub (pd_v 1) (pd_v 2)) (pd_fld T.wt.cl T.wt.a1 (pd_v 0) rfl (fun _ => .int _)) hs) (.inl ⟨by decide, by decide⟩)) (pd_fld T.wt.cl T.wt.a1 (pd_v 0) rfl (fun _ => .int _))) ?_)
    rfl

def R_is_age (ds : List Dx) (d : Dx) : Prop := ∃ (r : Wr) (a : Int), ds = [.wh r, .int a] ∧ d = .bl (decide (0 ≤ a) && decide (a ≤ r.size - 1))
theorem ok_is_age (Fn : Fun K "is_age" "is_age" s_is_age f fd) (T : Tx K mg C) (D_is_whole : Df P w K mg base CX0 1 "is_whole" ["value", "low", "high"] (SpF K C R_is_whole)) : FnOk P w K mg base CX0 2 f fd ["wheel", "value"] (SpF K C R_is_age) := by
  refine Fun.okD Fn c_is_age ?_ ?_
  · rintro ds d ⟨r, a, rfl, rfl⟩; rfl
  · rintro cdv A outer s H E G0 H0 ds d hr ⟨r, a, rfl, rfl⟩
    refine bb_one (ss_ret (pd_call D_is_whole hr pass0 (ad_cons (pd_v 1) (ad_cons pd_int (ad_cons (pd_sub (pd_fld T.wt.cl T.wt.a1 (pd_v 0) rfl (fun _ => .int _)) pd_int) ad_nil))) ⟨_, _, _, rfl, rfl⟩) ?_)
    rfl

def R_is_age_or_none (ds : List Dx) (d : Dx) : Prop := ∃ (r : Wr) (o : Option Int), ds = [.wh r, optD o] ∧ OAg r o ∧ d = .bl true
theorem ok_is_age_or_none (Fn : Fun K "is_age_or_none" "is_age_or_none" s_is_age_or_none f fd) (T : Tx K mg C) (D_is_age : Df P w K mg base CX0 2 "is_age" ["wheel", "value"] (SpF K C R_is_age)) : FnOk P w K mg base CX0 3 f fd ["wheel", "value"] (SpF K C R_is_age_or_none) := by
  refine Fun.okD Fn c_is_age_or_none ?_ ?_
  · rintro ds d ⟨r, o, rfl, _, rfl⟩; rfl
  · rintro cdv A outer s H E G0 H0 ds d hr ⟨r, o, rfl, ho, rfl⟩
    cases o with
    | none => exact bb_one (ss_ret (pd_or (y := true) (pd_isN (pd_v 1)) (fun h => by cases h)) rfl)
    | some a =>
      refine bb_one (ss_ret (pd_or (pd_isN (pd_v 1)) (fun h => (pd_one (pd_call D_is_age hr pass0 (ad_cons (pd_v 0) (ad_cons (pd_v 1) ad_nil)) ⟨r, a, rfl, rfl⟩)))) ?_)
      have h := ho a rfl
      show Dx.bl (false || _) = _
      rw [decide_eq_true h.1, decide_eq_true h.2]
      rfl

def R_is_row (ds : List Dx) (d : Dx) : Prop := ∃ (r : Wr) (o : Row), ds = [.wh r, dRow o] ∧ RowOk r o ∧ d = .bl true
theorem ok_is_row (Fn : Fun K "is_row" "is_row" s_is_row f fd) (T : Tx K mg C) (D_is_age_or_none : Df P w K mg base CX0 3 "is_age_or_none" ["wheel", "value"] (SpF K C R_is_age_or_none)) : FnOk P w K mg base CX0 4 f fd ["wheel", "value"] (SpF K C R_is_row) := by
  refine Fun.okD Fn c_is_row ?_ ?_
  · rintro ds d ⟨r, o, rfl, _, rfl⟩; rfl
  · rintro cdv A outer s H E G0 H0 ds d hr ⟨r, o, rfl, ho, rfl⟩
    cases o with
    | none => exact bb_cons (ss_if (td_isN (pd_v 1)) (fun _ => bb_one (ss_ret pd_bl rfl)) (fun h => by cases h))
    | some p =>
      obtain ⟨a, k⟩ := p
      obtain ⟨ha, hk⟩ := ho a k rfl
      refine bb_cons (ss_if (td_isN (pd_v 1)) (fun h => by cases h) (fun _ => bb_nil ?_))
      refine bb_cons (ss_if (td_w (tw_or (td_not (td_val (pd_isi (T := "tuple") (k := true) (pd_v 1) rfl (by decide +kernel) T.f_isinstance T.f_tuple))) (fun h => (tw_or1 (td_ne (pd_len T.f_len (pd_v 1) rfl) pd_int))))) (fun h => by cases h) (fun _ => bb_nil ?_))
      refine bb_one (ss_ret (pd_all (bs := [true, true]) T.f_all rfl (pd_lc [("one", 2)] (fun _ => some (.bl true)) (ds := [optD a, optD k]) rfl c_is_row.nd (blkOk_by (N := n_is_row) (sc := defScope s_is_row) (by decide +kernel)) (pl_seq (pd_v 1) (.inl rfl)) (show 2 ≤ 1000 by decide) fun d hd => ?_)) rfl)
      have hd' : ∃ o, d = optD o ∧ OAg r o := by
        rcases List.mem_cons.mp hd with rfl | hd
        · exact ⟨a, rfl, ha⟩
        · rcases List.mem_cons.mp hd with rfl | hd
          · exact ⟨k, rfl, hk⟩
          · cases hd
      obtain ⟨o, rfl, ho'⟩ := hd'
      exact ⟨_, true, fun s H C cl fp => gd_name 2 c_is_row.nd, fun s H C cl fp => tds_nil, fun _ => ⟨_, rfl, fun s H C cl fp => pd_call D_is_age_or_none hr pass0 (ad_cons (pd_v 0) (ad_cons (pd_v 2) ad_nil)) ⟨r, o, rfl, ho', rfl⟩⟩, fun h => by cases h⟩

def R_is_reader (ds : List Dx) (d : Dx) : Prop := ∃ (r : Wr) (o : Rdr), ds = [.wh r, dRd o] ∧ RdOk r o ∧ d = .bl true
theorem ok_is_reader (Fn : Fun K "is_reader" "is_reader" s_is_reader f fd) (T : Tx K mg C) (D_is_age : Df P w K mg base CX0 2 "is_age" ["wheel", "value"] (SpF K C R_is_age)) : FnOk P w K mg base CX0 3 f fd ["wheel", "value"] (SpF K C R_is_reader) := by
  refine Fun.okD Fn c_is_reader ?_ ?_
  · rintro ds d ⟨r, o, rfl, _, rfl⟩; rfl
  · rintro cdv A outer s H E G0 H0 ds d hr ⟨r, o, rfl, ho, rfl⟩
    cases o with
    | none => exact bb_cons (ss_if (td_isN (pd_v 1)) (fun _ => bb_one (ss_ret pd_bl rfl)) (fun h => by cases h))
    | some p =>
      obtain ⟨a, k⟩ := p
      have ha := ho a k rfl
      refine bb_cons (ss_if (td_isN (pd_v 1)) (fun h => by cases h) (fun _ => bb_nil ?_))
      refine bb_cons (ss_if (td_w (tw_or (td_not (td_val (pd_isi (T := "tuple") (k := true) (pd_v 1) rfl (by decide +kernel) T.f_isinstance T.f_tuple))) (fun h => (tw_or1 (td_ne (pd_len T.f_len (pd_v 1) rfl) pd_int))))) (fun h => by cases h) (fun _ => bb_nil ?_))
      refine bb_one (ss_ret (pd_and (pd_call D_is_age hr pass0 (ad_cons (pd_v 0) (ad_cons (pd_tx (pd_v 1) pd_int) ad_nil)) ⟨r, a, rfl, rfl⟩) (fun h => (pd_one (pd_isi (T := "bool") (k := true) (pd_tx (pd_v 1) pd_int) rfl (by decide +kernel) T.f_isinstance T.f_bool)))) ?_)
      rw [decide_eq_true ha.1, decide_eq_true ha.2]
      rfl

def R_is_state (ds : List Dx) (d : Dx) : Prop := ∃ (r : Wr) (s : SR), ds = [.wh r, dS s] ∧ s.Ok r ∧ d = .bl true
theorem ok_is_state (Fn : Fun K "is_state" "is_state" s_is_state f fd) (T : Tx K mg C) (D_is_row : Df P w K mg base CX0 4 "is_row" ["wheel", "value"] (SpF K C R_is_row)) (D_is_reader : Df P w K mg base CX0 3 "is_reader" ["wheel", "value"] (SpF K C R_is_reader))
    (D_is_whole : Df P w K mg base CX0 1 "is_whole" ["value", "low", "high"] (SpF K C R_is_whole)) : FnOk P w K mg base CX0 5 f fd ["wheel", "value"] (SpF K C R_is_state) := by
  refine Fun.okD Fn c_is_state ?_ ?_
  · rintro ds d ⟨r, o, rfl, _, rfl⟩; rfl
  · rintro cdv A outer s H E G0 H0 ds d hr ⟨r, o, rfl, ⟨h1, h2, h3, h4⟩, rfl⟩
    refine bb_cons (ss_if (td_w (tw_or (td_not (td_val (pd_isi (T := "tuple") (k := true) (pd_v 1) rfl (by decide +kernel) T.f_isinstance T.f_tuple))) (fun h => (tw_or1 (td_ne (pd_len T.f_len (pd_v 1) rfl) pd_int))))) (fun h => by cases h) (fun _ => bb_nil ?_))
    refine bb_one (ss_ret (pd_and (pd_call D_is_row hr pass0 (ad_cons (pd_v 0) (ad_cons (pd_tx (pd_v 1) pd_int) ad_nil)) ⟨r, o.row, rfl, h1, rfl⟩) (fun h => (pd_and (pd_call D_is_reader hr pass0 (ad_cons (pd_v 0) (ad_cons (pd_tx (pd_v 1) pd_int) ad_nil)) ⟨r, o.rd, rfl, h2, rfl⟩) (fun h => (pd_one (pd_call D_is_whole hr pass0 (ad_cons (pd_tx (pd_v 1) pd_int) (ad_cons pd_int (ad_cons (pd_fld T.wt.cl T.wt.a1 (pd_v 0) rfl (fun _ => .int _)) ad_nil))) ⟨_, _, _, rfl, rfl⟩)))))) ?_)
    rw [decide_eq_true h3, decide_eq_true h4]
    rfl

def R_check_wheel (ds : List Dx) (d : Dx) : Prop := ∃ (r : Wr), ds = [.wh r] ∧ d = .non
theorem ok_check_wheel (Fn : Fun K "check_wheel" "check_wheel" s_check_wheel f fd) (T : Tx K mg C) : FnOk P w K mg base CX0 1 f fd ["value"] (SpF K C R_check_wheel) := by
  refine Fun.okD Fn c_check_wheel ?_ ?_
  · rintro ds d ⟨r, rfl, rfl⟩; rfl
  · rintro cdv A outer s H E G0 H0 ds d hr ⟨r, rfl, rfl⟩
    exact bb_one (ss_if (td_not (td_val (pd_isiW T.wt (pd_v 0) T.f_isinstance T.mgW))) (fun h => by cases h) (fun _ => bb_nil rfl))

def R_check_state (ds : List Dx) (d : Dx) : Prop := ∃ (r : Wr) (s : SR), ds = [.wh r, dS s] ∧ s.Ok r ∧ d = .non
theorem ok_check_state (Fn : Fun K "check_state" "check_state" s_check_state f fd) (T : Tx K mg C) (D_check_wheel : Df P w K mg base CX0 1 "check_wheel" ["value"] (SpF K C R_check_wheel)) (D_is_state : Df P w K mg base CX0 5 "is_state" ["wheel", "value"] (SpF K C R_is_state)) :
    FnOk P w K mg base CX0 6 f fd ["wheel", "state"] (SpF K C R_check_state) := by
  refine Fun.okD Fn c_check_state ?_ ?_
  · rintro ds d ⟨r, o, rfl, _, rfl⟩; rfl
  · rintro cdv A outer s H E G0 H0 ds d hr ⟨r, o, rfl, ok, rfl⟩
    refine bb_cons (ss_expr (pd_call D_check_wheel hr pass0 (ad_cons (pd_v 0) ad_nil) ⟨r, rfl, rfl⟩) ?_)
    exact bb_one (ss_if (td_not (td_val (pd_call D_is_state hr pass0 (ad_cons (pd_v 0) (ad_cons (pd_v 1) ad_nil)) ⟨r, o, rfl, ok, rfl⟩))) (fun h => by cases h) (fun _ => bb_nil rfl))
end
end Lap
set_option maxHeartbeats 4000000
/-! The program's defs, second part: what is seen, what numbers and passes do. -/
namespace Lap
open PySem PySem.Spec L2
open PyProof.Rows hiding St
section
variable {P : Program} {w : World} {K : PySem.W.Frag} {mg : Str → Option Value} {base : Heap} {C : Addr} {f : Addr} {fd : FuncData}

theorem Wr.Ok.pos {r : Wr} (ok : r.Ok) : 0 < r.size := by rcases ok.1 with h | h <;> omega
def R_is_stopped (ds : List Dx) (d : Dx) : Prop := ∃ (r : Wr) (s : SR), ds = [.wh r, dS s] ∧ d = .bl (stopd r s)
theorem ok_is_stopped (Fn : Fun K "is_stopped" "is_stopped" s_is_stopped f fd) (T : Tx K mg C) : FnOk P w K mg base CX0 1 f fd ["wheel", "state"] (SpF K C R_is_stopped) := by
  refine Fun.okD Fn c_is_stopped ?_ ?_
  · rintro ds d ⟨r, o, rfl, rfl⟩; rfl
  · rintro cdv A outer s H E G0 H0 ds d hr ⟨⟨sz, fr, st, ho, cu⟩, o, rfl, rfl⟩
    cases st with
    | none => exact bb_one (ss_ret (pd_and (y := true) (pd_notN (pd_fld T.wt.cl T.wt.a3 (pd_v 0) rfl (fun _ => DX.mk_opt none))) (fun h => by cases h)) rfl)
    | some k => exact bb_one (ss_ret (pd_and (pd_notN (pd_fld T.wt.cl T.wt.a3 (pd_v 0) rfl (fun _ => DX.mk_opt (some k)))) (fun h => (pd_one (pd_ge (pd_tx (pd_v 1) pd_int) (pd_fld T.wt.cl T.wt.a3 (pd_v 0) rfl (fun _ => DX.mk_opt (some k))))))) rfl)

def R_sees (ds : List Dx) (d : Dx) : Prop := ∃ (r : Wr) (o : Row) (p : Int), ds = [.wh r, dRow o, .int p] ∧ r.Ok ∧ d = .bl (seesM r o p)
theorem ok_sees (Fn : Fun K "sees" "sees" s_sees f fd) (T : Tx K mg C) (D_before : Df P w K mg base CX0 1 "before" ["wheel", "age", "picture"] (SpF K C R_before)) : FnOk P w K mg base CX0 2 f fd ["wheel", "row", "picture"] (SpF K C R_sees) := by
  refine Fun.okD Fn c_sees ?_ ?_
  · rintro ds d ⟨r, o, p, rfl, _, rfl⟩; rfl
  · rintro cdv A outer s H E G0 H0 ds d hr ⟨r, o, p, rfl, ok, rfl⟩
    cases o with
    | none => exact bb_cons (ss_if (td_isN (pd_v 1)) (fun _ => bb_one (ss_ret pd_bl rfl)) (fun h => by cases h))
    | some q =>
      obtain ⟨a, k⟩ := q
      refine bb_cons (ss_if (td_isN (pd_v 1)) (fun h => by cases h) (fun _ => bb_nil ?_))
      refine bb_cons (ss_asg (is := [3, 4]) (pd_v 1) (gd_tup rfl (gds_cons (gd_name 3 c_sees.nd) (gds_cons (gd_name 4 c_sees.nd) gds_nil))) ?_)
      -- the last line
      have last : wB r a p = true → BB (BX P w K mg base n_sees "sees" s_sees f cdv A outer s H E) ⟨C, G0, H0⟩ [some (.d (.wh r)), some (.d (dRow (some (a, k)))), some (.d (.int p)), some (.d (optD a)), some (.d (optD k))] ((defBody s_sees).drop 3)
          (fun _ => Dx.bl (seesM r (some (a, k)) p) = .non) (fun d' => d' = Dx.bl (seesM r (some (a, k)) p)) := fun ha => by
        cases k with
        | none => exact bb_one (ss_ret (pd_or (y := true) (pd_isN (pd_v 4)) (fun h => by cases h)) (by show Dx.bl true = Dx.bl (wB r a p && true); rw [ha]; rfl))
        | some b => exact bb_one (ss_ret (pd_or (pd_isN (pd_v 4)) (fun h => (pd_one (pd_not (pd_call D_before hr pass0 (ad_cons (pd_v 0) (ad_cons (pd_v 4) (ad_cons (pd_v 2) ad_nil))) ⟨r, b, p, rfl, ok, rfl⟩))))) (by show Dx.bl (false || !bef r b p) = Dx.bl (wB r a p && !bef r b p); rw [ha]; rfl))
      cases a with
      | none => exact bb_cons (ss_if (td_w (tw_and (y := true) (td_notN (pd_v 3)) (fun h => by cases h))) (fun h => by cases h) (fun _ => bb_nil (last rfl)))
      | some a =>
        refine bb_cons (ss_if (td_w (tw_and (td_notN (pd_v 3)) (fun h => (tw_and1 (td_not (td_val (pd_call D_before hr pass0 (ad_cons (pd_v 0) (ad_cons (pd_v 3) (ad_cons (pd_v 2) ad_nil))) ⟨r, a, p, rfl, ok, rfl⟩))))))) (fun h => ?_) (fun h => bb_nil (last ?_)))
        · have e : bef r a p = false := by
            have h' : (true && !bef r a p) = true := h
            simpa using h'
          exact bb_one (ss_ret pd_bl (by show Dx.bl false = Dx.bl (bef r a p && _); rw [e]; rfl))
        · have h' : (true && !bef r a p) = false := h
          show bef r a p = true
          simpa using h'

def R_is_there (ds : List Dx) (d : Dx) : Prop := ∃ (o : Row), ds = [dRow o] ∧ d = .bl (there o)
theorem ok_is_there (Fn : Fun K "is_there" "is_there" s_is_there f fd) : FnOk P w K mg base CX0 1 f fd ["row"] (SpF K C R_is_there) := by
  refine Fun.okD Fn c_is_there ?_ ?_
  · rintro ds d ⟨o, rfl, rfl⟩; rfl
  · rintro cdv A outer s H E G0 H0 ds d hr ⟨o, rfl, rfl⟩
    cases o with
    | none => exact bb_one (ss_ret (pd_and (y := true) (pd_notN (pd_v 0)) (fun h => by cases h)) rfl)
    | some p =>
      obtain ⟨a, k⟩ := p
      refine bb_one (ss_ret (pd_and (pd_notN (pd_v 0)) (fun h => (pd_one (pd_isN (pd_tx (d := optD k) (pd_v 0) pd_int))))) ?_)
      cases k <;> rfl

def R_older (ds : List Dx) (d : Dx) : Prop := ∃ (r : Wr) (o : Option Int), ds = [.wh r, optD o] ∧ r.Ok ∧ d = optD (olderM r o)
theorem ok_older (Fn : Fun K "older" "older" s_older f fd) (T : Tx K mg C) : FnOk P w K mg base CX0 1 f fd ["wheel", "age"] (SpF K C R_older) := by
  refine Fun.okD Fn c_older ?_ ?_
  · rintro ds d ⟨r, o, rfl, _, rfl⟩; rfl
  · rintro cdv A outer s H E G0 H0 ds d hr ⟨r, o, rfl, ok, rfl⟩
    cases o with
    | none => exact bb_one (ss_ret (pd_if (td_isN (pd_v 1)) (fun h => pd_non) (fun h => by cases h)) rfl)
    | some a => exact bb_one (ss_ret (pd_if (td_isN (pd_v 1)) (fun h => by cases h) (fun h => (pd_mod (pd_add (pd_v 1) pd_int) (pd_fld T.wt.cl T.wt.a1 (pd_v 0) rfl (fun _ => .int _)) ok.pos))) rfl)

def R_numbered (ds : List Dx) (d : Dx) : Prop := ∃ (r : Wr) (s : SR), ds = [.wh r, dS s] ∧ r.Ok ∧ d = dS (numM r s)
theorem ok_numbered (Fn : Fun K "numbered" "numbered" s_numbered f fd) (T : Tx K mg C) (D_older : Df P w K mg base CX0 1 "older" ["wheel", "age"] (SpF K C R_older)) : FnOk P w K mg base CX0 2 f fd ["wheel", "state"] (SpF K C R_numbered) := by
  refine Fun.okD Fn c_numbered ?_ ?_
  · rintro ds d ⟨r, o, rfl, _, rfl⟩; rfl
  · rintro cdv A outer s H E G0 H0 ds d hr ⟨r, ⟨row, rd, tb⟩, rfl, ok, rfl⟩
    refine bb_cons (ss_asg (is := [2, 3, 4]) (pd_v 1) (gd_tup rfl (gds_cons (gd_name 2 c_numbered.nd) (gds_cons (gd_name 3 c_numbered.nd) (gds_cons (gd_name 4 c_numbered.nd) gds_nil)))) ?_)
    -- from the second if on
    have last : ∀ row2 : Row, BB (BX P w K mg base n_numbered "numbered" s_numbered f cdv A outer s H E) ⟨C, G0, H0⟩ [some (.d (.wh r)), some (.d (dS ⟨row, rd, tb⟩)), some (.d (dRow row2)), some (.d (dRd rd)), some (.d (.int tb))] ((defBody s_numbered).drop 2)
        (fun _ => dS ⟨row2, rdN r rd, tbN r tb⟩ = .non) (fun d' => d' = dS ⟨row2, rdN r rd, tbN r tb⟩) := fun row2 => by
      have fin : ∀ rd2 : Rdr, BB (BX P w K mg base n_numbered "numbered" s_numbered f cdv A outer s H E) ⟨C, G0, H0⟩ [some (.d (.wh r)), some (.d (dS ⟨row, rd, tb⟩)), some (.d (dRow row2)), some (.d (dRd rd2)), some (.d (.int tb))] ((defBody s_numbered).drop 3)
          (fun _ => dS ⟨row2, rd2, tbN r tb⟩ = .non) (fun d' => d' = dS ⟨row2, rd2, tbN r tb⟩) := fun rd2 =>
        bb_one (ss_ret (pd_tup (ad_cons (pd_v 2) (ad_cons (pd_v 3) (ad_cons (pd_min2 T.f_min rfl (pd_add (pd_v 4) pd_int) (pd_fld T.wt.cl T.wt.a1 (pd_v 0) rfl (fun _ => .int _))) ad_nil)))) rfl)
      cases rd with
      | none => exact bb_cons (ss_if (td_notN (pd_v 3)) (fun h => by cases h) (fun _ => bb_nil (fin none)))
      | some q =>
        obtain ⟨p, b⟩ := q
        refine bb_cons (ss_if (td_notN (pd_v 3)) (fun _ => ?_) (fun h => by cases h))
        refine bb_cons (ss_set 3 c_numbered.nd (pd_tup (ad_cons (pd_call D_older hr pass0 (ad_cons (pd_v 0) (ad_cons (pd_tx (pd_v 3) pd_int) ad_nil)) ⟨r, some p, rfl, ok, rfl⟩) (ad_cons (pd_tx (pd_v 3) pd_int) ad_nil))) ?_)
        obtain ⟨sz, fr, sp, ho, cu⟩ := r
        cases cu with
        | none => exact bb_one (ss_if (td_w (tw_and (y := true) (td_notN (pd_fld T.wt.cl T.wt.a5 (pd_v 0) rfl (fun _ => DX.mk_opt none))) (fun h => by cases h))) (fun h => by cases h) (fun _ => bb_nil (fin (some ((p + 1) % sz, b)))))
        | some c =>
          refine bb_one (ss_if (td_w (tw_and (td_notN (pd_fld T.wt.cl T.wt.a5 (pd_v 0) rfl (fun _ => DX.mk_opt (some c)))) (fun h => (tw_and1 (td_ge (pd_tx (d := .int ((p + 1) % sz)) (pd_v 3) pd_int) (pd_fld T.wt.cl T.wt.a5 (pd_v 0) rfl (fun _ => DX.mk_opt (some c)))))))) (fun h => ?_) (fun h => ?_))
          · have hc : c ≤ (p + 1) % sz := of_decide_eq_true (by simpa [Dx.isNon, optD] using h)
            refine bb_one (ss_set 3 c_numbered.nd pd_non ?_)
            have e : rdN ⟨sz, fr, sp, ho, some c⟩ (some (p, b)) = none := if_pos hc
            rw [e]
            exact fin none
          · have hc : ¬ c ≤ (p + 1) % sz := of_decide_eq_false (by simpa [Dx.isNon, optD] using h)
            have e : rdN ⟨sz, fr, sp, ho, some c⟩ (some (p, b)) = some ((p + 1) % sz, b) := if_neg hc
            rw [e]
            exact bb_nil (fin (some ((p + 1) % sz, b)))
    cases row with
    | none => exact bb_cons (ss_if (td_notN (pd_v 2)) (fun h => by cases h) (fun _ => bb_nil (last none)))
    | some q =>
      obtain ⟨a, k⟩ := q
      refine bb_cons (ss_if (td_notN (pd_v 2)) (fun _ => ?_) (fun h => by cases h))
      refine bb_one (ss_set 2 c_numbered.nd (pd_tup (ad_cons (pd_call D_older hr pass0 (ad_cons (pd_v 0) (ad_cons (pd_tx (pd_v 2) pd_int) ad_nil)) ⟨r, a, rfl, ok, rfl⟩) (ad_cons (pd_call D_older hr pass0 (ad_cons (pd_v 0) (ad_cons (pd_tx (pd_v 2) pd_int) ad_nil)) ⟨r, k, rfl, ok, rfl⟩) ad_nil))) ?_)
      exact last (some (olderM r a, olderM r k))

theorem hold_yes (b : Bool) : decide (V.str (holdS b) = V.str "yes") = b := by cases b <;> decide +kernel
def heldM (r : Wr) (d : Rdr) : Bool := d.isSome && r.hold
def R_is_held (ds : List Dx) (d : Dx) : Prop := ∃ (r : Wr) (s : SR), ds = [.wh r, dS s] ∧ d = .bl (heldM r s.rd)
theorem ok_is_held (Fn : Fun K "is_held" "is_held" s_is_held f fd) (T : Tx K mg C) : FnOk P w K mg base CX0 1 f fd ["wheel", "state"] (SpF K C R_is_held) := by
  refine Fun.okD Fn c_is_held ?_ ?_
  · rintro ds d ⟨r, o, rfl, rfl⟩; rfl
  · rintro cdv A outer s H E G0 H0 ds d hr ⟨r, ⟨row, rd, tb⟩, rfl, rfl⟩
    cases rd with
    | none => exact bb_one (ss_ret (pd_and (y := true) (pd_notN (pd_tx (d := .non) (pd_v 1) pd_int)) (fun h => by cases h)) rfl)
    | some q =>
      refine bb_one (ss_ret (pd_and (pd_notN (pd_tx (d := dRd (some q)) (pd_v 1) pd_int)) (fun h => (pd_one (pd_eq (pd_fld (d := .str (holdS r.hold)) T.wt.cl T.wt.a4 (pd_v 0) rfl (fun _ => .str _)) pd_str)))) ?_)
      show Dx.bl (true && decide (V.str (holdS r.hold) = V.str "yes")) = Dx.bl (true && r.hold)
      rw [hold_yes]

def R_is_ripe (ds : List Dx) (d : Dx) : Prop := ∃ (r : Wr) (s : SR) (o : Option Int), ds = [.wh r, dS s, optD o] ∧ r.Ok ∧ d = .bl (ripeM r s.rd o)
theorem ok_is_ripe (Fn : Fun K "is_ripe" "is_ripe" s_is_ripe f fd) (T : Tx K mg C) (D_before : Df P w K mg base CX0 1 "before" ["wheel", "age", "picture"] (SpF K C R_before)) (D_is_held : Df P w K mg base CX0 1 "is_held" ["wheel", "state"] (SpF K C R_is_held)) :
    FnOk P w K mg base CX0 2 f fd ["wheel", "state", "age"] (SpF K C R_is_ripe) := by
  refine Fun.okD Fn c_is_ripe ?_ ?_
  · rintro ds d ⟨r, o, k, rfl, _, rfl⟩; rfl
  · rintro cdv A outer s H E G0 H0 ds d hr ⟨r, ⟨row, rd, tb⟩, o, rfl, ok, rfl⟩
    cases o with
    | none => exact bb_cons (ss_if (td_w (tw_or (y := true) (td_isN (pd_v 2)) (fun h => by cases h))) (fun _ => bb_one (ss_ret pd_bl rfl)) (fun h => by cases h))
    | some a =>
      refine bb_cons (ss_if (td_w (tw_or (td_isN (pd_v 2)) (fun h => (tw_or1 (td_not (td_val (pd_call D_before hr pass0 (ad_cons (pd_v 0) (ad_cons (pd_v 2) (ad_cons pd_int ad_nil))) ⟨r, a, 0, rfl, ok, rfl⟩))))))) (fun h => ?_) (fun h => bb_nil ?_))
      · have e : bef r a 0 = false := by
          have h' : (false || !bef r a 0) = true := h
          simpa using h'
        refine bb_one (ss_ret pd_bl ?_)
        show Dx.bl false = Dx.bl (bef r a 0 && _)
        rw [e]
        rfl
      · have e : bef r a 0 = true := by
          have h' : (false || !bef r a 0) = false := h
          simpa using h'
        cases rd with
        | none =>
          refine bb_one (ss_ret (pd_or (y := true) (pd_not (pd_call D_is_held hr pass0 (ad_cons (pd_v 0) (ad_cons (pd_v 1) ad_nil)) ⟨r, ⟨row, none, tb⟩, rfl, rfl⟩)) (fun h => by cases h)) ?_)
          show Dx.bl (true || true) = Dx.bl (bef r a 0 && true)
          rw [e]
          rfl
        | some q =>
          obtain ⟨p, b⟩ := q
          refine bb_one (ss_ret (pd_or (pd_not (pd_call D_is_held hr pass0 (ad_cons (pd_v 0) (ad_cons (pd_v 1) ad_nil)) ⟨r, ⟨row, some (p, b), tb⟩, rfl, rfl⟩)) (fun h => (pd_one (pd_call D_before hr pass0 (ad_cons (pd_v 0) (ad_cons (pd_v 2) (ad_cons (pd_tx (pd_tx (d := dRd (some (p, b))) (pd_v 1) pd_int) pd_int) ad_nil))) ⟨r, a, p, rfl, ok, rfl⟩)))) ?_)
          show Dx.bl (!(true && r.hold) || bef r a p) = Dx.bl (bef r a 0 && (!r.hold || bef r a p))
          rw [e, Bool.true_and, Bool.true_and]

def R_passed (ds : List Dx) (d : Dx) : Prop := ∃ (r : Wr) (s : SR), ds = [.wh r, dS s] ∧ r.Ok ∧ d = dS (passM r s)
theorem ok_passed (Fn : Fun K "passed" "passed" s_passed f fd) (T : Tx K mg C) (D_is_held : Df P w K mg base CX0 1 "is_held" ["wheel", "state"] (SpF K C R_is_held)) (D_is_ripe : Df P w K mg base CX0 2 "is_ripe" ["wheel", "state", "age"] (SpF K C R_is_ripe)) :
    FnOk P w K mg base CX0 3 f fd ["wheel", "state"] (SpF K C R_passed) := by
  refine Fun.okD Fn c_passed ?_ ?_
  · rintro ds d ⟨r, o, rfl, _, rfl⟩; rfl
  · rintro cdv A outer s H E G0 H0 ds d hr ⟨r, ⟨row, rd, tb⟩, rfl, ok, rfl⟩
    refine bb_cons (ss_asg (is := [2, 3, 4]) (pd_v 1) (gd_tup rfl (gds_cons (gd_name 2 c_passed.nd) (gds_cons (gd_name 3 c_passed.nd) (gds_cons (gd_name 4 c_passed.nd) gds_nil)))) ?_)
    refine bb_cons (ss_set 5 c_passed.nd (d := .int (mostM r rd)) (pd_if (td_val (pd_call D_is_held hr pass0 (ad_cons (pd_v 0) (ad_cons (pd_v 1) ad_nil)) ⟨r, ⟨row, rd, tb⟩, rfl, rfl⟩)) (fun h => ?_) (fun h => ?_)) ?_)
    · cases rd with
      | none => cases h
      | some q =>
        obtain ⟨p, b⟩ := q
        have hh : r.hold = true := h
        have e : mostM r (some (p, b)) = if p > r.freeze then p else r.freeze := by
          show (if r.hold = true then _ else _) = _
          rw [if_pos hh]
        rw [e]
        exact pd_max2 T.f_max rfl (pd_fld T.wt.cl T.wt.a2 (pd_v 0) rfl (fun _ => .int _)) (pd_tx (pd_v 3) pd_int)
    · have e : mostM r rd = r.freeze := by
        cases rd with
        | none => rfl
        | some q =>
          have hh : r.hold = false := h
          show (if r.hold = true then _ else _) = _
          rw [hh]
          rfl
      rw [e]
      exact pd_fld T.wt.cl T.wt.a2 (pd_v 0) rfl (fun _ => .int _)
    refine bb_cons (ss_set 6 c_passed.nd (pd_v 2) ?_)
    have fin : ∀ row2 : Row, BB (BX P w K mg base n_passed "passed" s_passed f cdv A outer s H E) ⟨C, G0, H0⟩ [some (.d (.wh r)), some (.d (dS ⟨row, rd, tb⟩)), some (.d (dRow row)), some (.d (dRd rd)), some (.d (.int tb)), some (.d (.int (mostM r rd))), some (.d (dRow row2))] ((defBody s_passed).drop 4)
        (fun _ => dS ⟨row2, rd, if mostM r rd < tb then mostM r rd else tb⟩ = .non) (fun d' => d' = dS ⟨row2, rd, if mostM r rd < tb then mostM r rd else tb⟩) := fun row2 =>
      bb_one (ss_ret (pd_tup (ad_cons (pd_v 6) (ad_cons (pd_v 3) (ad_cons (pd_min2 T.f_min rfl (pd_v 4) (pd_v 5)) ad_nil)))) rfl)
    cases row with
    | none => exact bb_cons (ss_if (td_notN (pd_v 2)) (fun h => by cases h) (fun _ => bb_nil (fin none)))
    | some q =>
      obtain ⟨a, k⟩ := q
      refine bb_cons (ss_if (td_notN (pd_v 2)) (fun _ => ?_) (fun h => by cases h))
      refine bb_one (ss_if (td_val (pd_call D_is_ripe hr pass0 (ad_cons (pd_v 0) (ad_cons (pd_v 1) (ad_cons (pd_tx (pd_v 2) pd_int) ad_nil))) ⟨r, _, k, rfl, ok, rfl⟩)) (fun h => ?_) (fun h => ?_))
      · have hk : ripeM r rd k = true := h
        have e : rowP r rd (some (a, k)) = none := if_pos hk
        show BB _ _ _ _ (fun Γ' => BB _ _ Γ' _ (fun _ => dS ⟨rowP r rd (some (a, k)), _, _⟩ = .non) (fun d' => d' = dS ⟨rowP r rd (some (a, k)), _, _⟩)) _
        rw [e]
        exact bb_one (ss_set 6 c_passed.nd pd_non (fin none))
      · have hk : ripeM r rd k = false := h
        have stay : rowP r rd (some (a, k)) = some (a, k) → BB (BX P w K mg base n_passed "passed" s_passed f cdv A outer s H E) ⟨C, G0, H0⟩ [some (.d (.wh r)), some (.d (dS ⟨some (a, k), rd, tb⟩)), some (.d (dRow (some (a, k)))), some (.d (dRd rd)), some (.d (.int tb)), some (.d (.int (mostM r rd))), some (.d (dRow (some (a, k))))] ((defBody s_passed).drop 4)
            (fun _ => dS (passM r ⟨some (a, k), rd, tb⟩) = .non) (fun d' => d' = dS (passM r ⟨some (a, k), rd, tb⟩)) := fun e => by
          have e2 : passM r ⟨some (a, k), rd, tb⟩ = ⟨some (a, k), rd, if mostM r rd < tb then mostM r rd else tb⟩ := by
            show SR.mk (rowP r rd (some (a, k))) _ _ = _
            rw [e]
          rw [e2]
          exact fin (some (a, k))
        cases a with
        | none =>
          refine bb_one (ss_if (td_w (tw_and (y := true) (td_val (pd_call D_is_ripe hr pass0 (ad_cons (pd_v 0) (ad_cons (pd_v 1) (ad_cons (pd_tx (pd_v 2) pd_int) ad_nil))) ⟨r, _, none, rfl, ok, rfl⟩)) (fun h => by cases h))) (fun h => by cases h) (fun _ => bb_nil (stay ?_)))
          show (if ripeM r rd k = true then none else _) = _
          rw [hk]
          rfl
        | some a =>
          refine bb_one (ss_if (td_w (tw_and (td_val (pd_call D_is_ripe hr pass0 (ad_cons (pd_v 0) (ad_cons (pd_v 1) (ad_cons (pd_tx (pd_v 2) pd_int) ad_nil))) ⟨r, _, some a, rfl, ok, rfl⟩)) (fun h => (tw_and1 (td_ge (pd_tx (pd_v 2) pd_int) (pd_fld T.wt.cl T.wt.a2 (pd_v 0) rfl (fun _ => .int _))))))) (fun h => ?_) (fun h => bb_nil (stay ?_)))
          · have h' : (ripeM r rd (some a) && decide (r.freeze ≤ a)) = true := h
            have e2 : passM r ⟨some (some a, k), rd, tb⟩ = ⟨some (none, k), rd, if mostM r rd < tb then mostM r rd else tb⟩ := by
              show SR.mk (if ripeM r rd k = true then none else if (ripeM r rd (some a) && decide (r.freeze ≤ a)) = true then _ else _) _ _ = _
              rw [hk, if_neg (by simp), if_pos h']
            rw [e2]
            exact bb_one (ss_set 6 c_passed.nd (pd_tup (ad_cons pd_non (ad_cons (pd_tx (pd_v 2) pd_int) ad_nil))) (fin (some (none, k))))
          · have h' : (ripeM r rd (some a) && decide (r.freeze ≤ a)) = false := h
            show (if ripeM r rd k = true then none else if (ripeM r rd (some a) && decide (r.freeze ≤ a)) = true then _ else _) = _
            rw [hk, h', if_neg (by simp), if_neg (by simp)]
end
end Lap
set_option maxHeartbeats 4000000
/-! The program's defs, third part: deeds, what is done, what is told. -/
namespace Lap
open PySem PySem.Spec L2
open PyProof.Rows hiding St
/-- the dict of deeds_in -/
def canD (b1 b2 b3 b4 b5 : Bool) : List (Key × V) := putK (putK (putK (mergeK [] (kvB [("tick", b1), ("write", b2), ("strike", b3)])) (Sum.inr "open") (.bl b4)) (Sum.inr "close") (.bl b5)) (Sum.inr "pass") (.bl true)
theorem canD_eq (b1 b2 b3 b4 b5 : Bool) : canD b1 b2 b3 b4 b5 = ([(Sum.inr "tick", .bl b1), (Sum.inr "write", .bl b2), (Sum.inr "strike", .bl b3), (Sum.inr "open", .bl b4), (Sum.inr "close", .bl b5), (Sum.inr "pass", .bl true)] : List (Key × V)) := by
  kernel_rfl
def deedD : List Dx := [.str "tick", .str "write", .str "strike", .str "open", .str "close", .str "pass"]
theorem canD_get (b1 b2 b3 b4 b5 : Bool) : ∀ d, d ∈ deedD → ∃ (k : Str) (y : Bool), d = .str k ∧ valV (canD b1 b2 b3 b4 b5) (Sum.inr k) = some (.bl y) := by
  intro d hd
  rw [canD_eq]
  rcases List.mem_cons.mp hd with rfl | hd
  · exact ⟨_, b1, rfl, by kernel_rfl⟩
  rcases List.mem_cons.mp hd with rfl | hd
  · exact ⟨_, b2, rfl, by kernel_rfl⟩
  rcases List.mem_cons.mp hd with rfl | hd
  · exact ⟨_, b3, rfl, by kernel_rfl⟩
  rcases List.mem_cons.mp hd with rfl | hd
  · exact ⟨_, b4, rfl, by kernel_rfl⟩
  rcases List.mem_cons.mp hd with rfl | hd
  · exact ⟨_, b5, rfl, by kernel_rfl⟩
  rcases List.mem_cons.mp hd with rfl | hd
  · exact ⟨_, true, rfl, by kernel_rfl⟩
  cases hd
def pick (b : Bool) (x : Str) : List Str := if b then [x] else []
theorem canD_all (b1 b2 b3 b4 b5 : Bool) : deedD.filterMap (gD (canD b1 b2 b3 b4 b5)) = (pick b1 "tick" ++ pick b2 "write" ++ pick b3 "strike" ++ pick b4 "open" ++ pick b5 "close" ++ [("pass" : Str)]).map Dx.str := by
  rw [canD_eq]
  cases b1 <;> cases b2 <;> cases b3 <;> cases b4 <;> cases b5 <;> kernel_rfl
theorem deedsM_eq (r : Wr) (s : SR) : deedsM r s = pick (!stopd r s) "tick" ++ pick (!stopd r s && s.row.isNone) "write" ++ pick (!stopd r s && there s.row) "strike" ++ pick s.rd.isNone "open" ++ pick (!s.rd.isNone) "close" ++ [("pass" : Str)] := by
  unfold deedsM pick
  cases stopd r s <;> cases s.row.isNone <;> cases there s.row <;> cases s.rd.isNone <;> rfl
section
variable {P : Program} {w : World} {K : PySem.W.Frag} {mg : Str → Option Value} {base : Heap} {C : Addr} {f : Addr} {fd : FuncData}
theorem dRow_non (o : Row) : (dRow o).isNon = o.isNone := by cases o <;> rfl
theorem dRd_non (o : Rdr) : (dRd o).isNon = o.isNone := by cases o <;> rfl
def R_deeds_in (ds : List Dx) (d : Dx) : Prop := ∃ (r : Wr) (s : SR), ds = [.wh r, dS s] ∧ d = .lst ((deedsM r s).map Dx.str)
theorem ok_deeds_in (Fn : Fun K "deeds_in" "deeds_in" s_deeds_in f fd) (T : Tx K mg C) (D_is_stopped : Df P w K mg base CX0 1 "is_stopped" ["wheel", "state"] (SpF K C R_is_stopped)) (D_is_there : Df P w K mg base CX0 1 "is_there" ["row"] (SpF K C R_is_there)) :
    FnOk P w K mg base CX0 2 f fd ["wheel", "state"] (SpF K C R_deeds_in) := by
  refine Fun.okD Fn c_deeds_in ?_ ?_
  · rintro ds d ⟨r, o, rfl, rfl⟩; rfl
  · rintro cdv A outer s H E G0 H0 ds d hr ⟨r, ⟨row, rd, tb⟩, rfl, rfl⟩
    have hu : (BX P w K mg base n_deeds_in "deeds_in" s_deeds_in f cdv A outer s H E).A.units + 1 < cLine := hu_of hr
    refine bb_cons (ss_asg (is := [2, 3, 4]) (pd_v 1) (gd_tup rfl (gds_cons (gd_name 2 c_deeds_in.nd) (gds_cons (gd_name 3 c_deeds_in.nd) (gds_cons (gd_name 4 c_deeds_in.nd) gds_nil)))) ?_)
    refine bb_cons (ss_set 5 c_deeds_in.nd (pd_not (pd_call D_is_stopped hr pass0 (ad_cons (pd_v 0) (ad_cons (pd_v 1) ad_nil)) ⟨r, ⟨row, rd, tb⟩, rfl, rfl⟩)) ?_)
    refine bb_cons (ss_setDct 6 (kbs := [("tick", !stopd r ⟨row, rd, tb⟩), ("write", !stopd r ⟨row, rd, tb⟩ && row.isNone), ("strike", !stopd r ⟨row, rd, tb⟩ && there row)]) c_deeds_in.nd
      (pps_cons pd_str (pd_v 5) (pps_cons pd_str (pd_and (y := row.isNone) (pd_v 5) (fun _ => pd_one (by rw [← dRow_non]; exact pd_isN (pd_v 2)))) (pps_cons pd_str (pd_and (y := there row) (pd_v 5) (fun _ => pd_one (pd_call D_is_there hr pass0 (ad_cons (pd_v 2) ad_nil) ⟨row, rfl, rfl⟩))) pps_nil))) ?_)
    refine bb_cons (ss_dput 6 (y := rd.isNone) hu pd_str (by rw [← dRd_non]; exact pd_isN (pd_v 3)) ?_)
    refine bb_cons (ss_dput 6 (y := !rd.isNone) hu pd_str (by rw [← dRd_non]; exact pd_notN (pd_v 3)) ?_)
    refine bb_cons (ss_dput 6 hu pd_str pd_bl ?_)
    have e : (deedsM r ⟨row, rd, tb⟩).map Dx.str = deedD.filterMap (gD (canD (!stopd r ⟨row, rd, tb⟩) (!stopd r ⟨row, rd, tb⟩ && row.isNone) (!stopd r ⟨row, rd, tb⟩ && there row) rd.isNone (!rd.isNone))) := by
      rw [canD_all, deedsM_eq]
    rw [e]
    have get := canD_get (!stopd r ⟨row, rd, tb⟩) (!stopd r ⟨row, rd, tb⟩ && row.isNone) (!stopd r ⟨row, rd, tb⟩ && there row) rd.isNone (!rd.isNone)
    show BB _ _ [some (.d (.wh r)), some (.d (dS ⟨row, rd, tb⟩)), some (.d (dRow row)), some (.d (dRd rd)), some (.d (.int tb)), some (.d (.bl (!stopd r ⟨row, rd, tb⟩))),
      some (.dct (canD (!stopd r ⟨row, rd, tb⟩) (!stopd r ⟨row, rd, tb⟩ && row.isNone) (!stopd r ⟨row, rd, tb⟩ && there row) rd.isNone (!rd.isNone))), none] _ _ _
    generalize canD (!stopd r ⟨row, rd, tb⟩) (!stopd r ⟨row, rd, tb⟩ && row.isNone) (!stopd r ⟨row, rd, tb⟩ && there row) rd.isNone (!rd.isNone) = l at get ⊢
    refine bb_one (ss_ret (pd_lc [("deed", 7)] (gD l) (ds := deedD) rfl c_deeds_in.nd (blkOk_by (N := n_deeds_in) (sc := defScope s_deeds_in) (by decide +kernel)) (pl_seq (pd_gk T.k_DEEDS) (.inl rfl)) (by decide) fun d hd => ?_) rfl)
    obtain ⟨k, y, rfl, hy⟩ := get d hd
    refine ⟨_, y, fun s H C cl fp => gd_name 7 c_deeds_in.nd, fun s H C cl fp => tds_one (td_val (pd_dget 6 hu (pd_v 7) hy)), fun e => ⟨.str k, ?_, fun s H C cl fp => pd_v 7⟩, fun e => ?_⟩
    · show (match valV l (Sum.inr k) with | some (.bl true) => some (Dx.str k) | _ => none) = _
      rw [hy, e]
    · show (match valV l (Sum.inr k) with | some (.bl true) => some (Dx.str k) | _ => none) = _
      rw [hy, e]

theorem str_dec {a b : Str} : decide (V.str a = V.str b) = decide (a = b) := by
  by_cases h : a = b
  · rw [decide_eq_true h, decide_eq_true (by rw [h])]
  · rw [decide_eq_false h, decide_eq_false (fun z => h (V.str.inj z))]
theorem str_of {a b : Str} (h : decide (V.str a = V.str b) = true) : a = b := by
  rw [str_dec] at h
  exact of_decide_eq_true h
theorem str_ne {a b : Str} (h : decide (V.str a = V.str b) = false) : ¬ a = b := by
  rw [str_dec] at h
  exact of_decide_eq_false h
theorem mem_pick {b : Bool} {x k : Str} : k ∈ pick b x ↔ b = true ∧ k = x := by
  unfold pick
  cases b <;> simp
/-- a strike that can be done meets a row -/
theorem strike_row {r : Wr} {s : SR} (h : ("strike" : Str) ∈ deedsM r s) : ∃ w, s.row = some (w, none) := by
  rw [deedsM_eq] at h
  simp only [List.mem_append, mem_pick, List.mem_singleton] at h
  have n1 : ¬ ("strike" : Str) = "tick" := by decide +kernel
  have n2 : ¬ ("strike" : Str) = "write" := by decide +kernel
  have n4 : ¬ ("strike" : Str) = "open" := by decide +kernel
  have n5 : ¬ ("strike" : Str) = "close" := by decide +kernel
  have n6 : ¬ ("strike" : Str) = "pass" := by decide +kernel
  rcases h with (((((h | h) | h) | h) | h) | h)
  · exact absurd h.2 n1
  · exact absurd h.2 n2
  · have h' := (Bool.and_eq_true_iff.mp h.1).2
    unfold there at h'
    split at h'
    · rename_i w e
      exact ⟨w, e⟩
    · cases h'
  · exact absurd h.2 n4
  · exact absurd h.2 n5
  · exact absurd h n6
def R_done (ds : List Dx) (d : Dx) : Prop := ∃ (r : Wr) (s : SR) (k : Str), ds = [.wh r, dS s, .str k] ∧ r.Ok ∧ k ∈ deedsM r s ∧ d = dS (doneM r s k)
theorem ok_done (Fn : Fun K "done" "done" s_done f fd) (T : Tx K mg C) (D_passed : Df P w K mg base CX0 3 "passed" ["wheel", "state"] (SpF K C R_passed)) (D_numbered : Df P w K mg base CX0 2 "numbered" ["wheel", "state"] (SpF K C R_numbered)) (D_is_there : Df P w K mg base CX0 1 "is_there" ["row"] (SpF K C R_is_there)) :
    FnOk P w K mg base CX0 4 f fd ["wheel", "state", "deed"] (SpF K C R_done) := by
  refine Fun.okD Fn c_done ?_ ?_
  · rintro ds d ⟨r, o, k, rfl, _, _, rfl⟩; rfl
  · rintro cdv A outer s H E G0 H0 ds d hr ⟨r, ⟨row, rd, tb⟩, k, rfl, ok, hk, rfl⟩
    refine bb_cons (ss_if (td_eq (pd_v 2) pd_str) (fun h => ?_) (fun h => bb_nil ?_))
    · rw [show doneM r ⟨row, rd, tb⟩ k = passM r ⟨row, rd, tb⟩ from if_pos (str_of h)]
      exact bb_one (ss_ret (pd_call D_passed hr pass0 (ad_cons (pd_v 0) (ad_cons (pd_v 1) ad_nil)) ⟨r, _, rfl, ok, rfl⟩) rfl)
    have h1 := str_ne h
    refine bb_cons (ss_if (td_eq (pd_v 2) pd_str) (fun h => ?_) (fun h => bb_nil ?_))
    · rw [show doneM r ⟨row, rd, tb⟩ k = ⟨row, some (0, there row), tb⟩ from (if_neg h1).trans (if_pos (str_of h))]
      exact bb_one (ss_ret (pd_tup (ad_cons (pd_tx (pd_v 1) pd_int) (ad_cons (pd_tup (ad_cons pd_int (ad_cons (pd_call D_is_there hr pass0 (ad_cons (pd_tx (pd_v 1) pd_int) ad_nil) ⟨row, rfl, rfl⟩) ad_nil))) (ad_cons (pd_tx (pd_v 1) pd_int) ad_nil)))) rfl)
    have h2 := str_ne h
    refine bb_cons (ss_if (td_eq (pd_v 2) pd_str) (fun h => ?_) (fun h => bb_nil ?_))
    · rw [show doneM r ⟨row, rd, tb⟩ k = ⟨row, none, tb⟩ from (if_neg h1).trans ((if_neg h2).trans (if_pos (str_of h)))]
      exact bb_one (ss_ret (pd_tup (ad_cons (pd_tx (pd_v 1) pd_int) (ad_cons pd_non (ad_cons (pd_tx (pd_v 1) pd_int) ad_nil)))) rfl)
    have h3 := str_ne h
    refine bb_cons (ss_asg (is := [3, 4, 5]) (pd_call D_numbered hr pass0 (ad_cons (pd_v 0) (ad_cons (pd_v 1) ad_nil)) ⟨r, ⟨row, rd, tb⟩, rfl, ok, rfl⟩) (gd_tup rfl (gds_cons (gd_name 3 c_done.nd) (gds_cons (gd_name 4 c_done.nd) (gds_cons (gd_name 5 c_done.nd) gds_nil)))) ?_)
    refine bb_cons (ss_if (td_eq (pd_v 2) pd_str) (fun h => ?_) (fun h => ?_))
    · rw [show doneM r ⟨row, rd, tb⟩ k = ⟨some (some 0, none), rdN r rd, tbN r tb⟩ from (if_neg h1).trans ((if_neg h2).trans ((if_neg h3).trans (if_pos (str_of h))))]
      refine bb_one (ss_set 3 c_done.nd (pd_tup (ad_cons pd_int (ad_cons pd_non ad_nil))) ?_)
      exact bb_one (ss_ret (pd_tup (ad_cons (pd_v 3) (ad_cons (pd_v 4) (ad_cons (pd_v 5) ad_nil)))) rfl)
    have h4 := str_ne h
    refine bb_one (ss_if (td_eq (pd_v 2) pd_str) (fun h => ?_) (fun h => bb_nil ?_))
    · have e5 := str_of h
      rw [e5] at hk
      obtain ⟨w0, hw⟩ := strike_row hk
      have hw : row = some (w0, none) := hw
      subst hw
      rw [show doneM r ⟨some (w0, none), rd, tb⟩ k = ⟨some (olderM r w0, some 0), rdN r rd, tbN r tb⟩ from (if_neg h1).trans ((if_neg h2).trans ((if_neg h3).trans ((if_neg h4).trans (if_pos e5))))]
      refine bb_one (ss_set 3 c_done.nd (pd_tup (ad_cons (pd_tx (d := optD (olderM r w0)) (pd_v 3) pd_int) (ad_cons pd_int ad_nil))) ?_)
      exact bb_one (ss_ret (pd_tup (ad_cons (pd_v 3) (ad_cons (pd_v 4) (ad_cons (pd_v 5) ad_nil)))) rfl)
    · rw [show doneM r ⟨row, rd, tb⟩ k = numM r ⟨row, rd, tb⟩ from (if_neg h1).trans ((if_neg h2).trans ((if_neg h3).trans ((if_neg h4).trans (if_neg (str_ne h)))))]
      exact bb_one (ss_ret (pd_tup (ad_cons (pd_v 3) (ad_cons (pd_v 4) (ad_cons (pd_v 5) ad_nil)))) rfl)

/-- a text, or something whose type is told and is no text -/
def Fine (x : Dx) : Prop := (∃ k, x = .str k) ∨ (∃ A, x.ty = some A ∧ kitB A "str" = some false ∧ ∀ k, x ≠ .str k)
def isD (r : Wr) (s : SR) : Dx → Bool
  | .str k => (deedsM r s).contains k
  | _ => false
theorem isD_no {r : Wr} {s : SR} {x : Dx} (h : ∀ k, x ≠ .str k) : isD r s x = false := by
  cases x <;> first | rfl | exact absurd rfl (h _)
def R_is_deed (ds : List Dx) (d : Dx) : Prop := ∃ (r : Wr) (s : SR) (x : Dx), ds = [.wh r, dS s, x] ∧ Fine x ∧ d = .bl (isD r s x)
theorem ok_is_deed (Fn : Fun K "is_deed" "is_deed" s_is_deed f fd) (T : Tx K mg C) (D_deeds_in : Df P w K mg base CX0 2 "deeds_in" ["wheel", "state"] (SpF K C R_deeds_in)) : FnOk P w K mg base CX0 3 f fd ["wheel", "state", "value"] (SpF K C R_is_deed) := by
  refine Fun.okD Fn c_is_deed ?_ ?_
  · rintro ds d ⟨r, o, x, rfl, _, rfl⟩; rfl
  · rintro cdv A outer s H E G0 H0 ds d hr ⟨r, o, x, rfl, hx, rfl⟩
    rcases hx with ⟨k, rfl⟩ | ⟨A', hA, hk, hn⟩
    · exact bb_one (ss_ret (pd_and (pd_isi (T := "str") (k := true) (pd_v 2) rfl (by decide +kernel) T.f_isinstance T.f_str) (fun h => (pd_one (pd_inS (ns := deedsM r o) (pd_v 2) (pd_call D_deeds_in hr pass0 (ad_cons (pd_v 0) (ad_cons (pd_v 1) ad_nil)) ⟨r, o, rfl, rfl⟩) (.inr rfl))))) rfl)
    · rw [isD_no hn]
      exact bb_one (ss_ret (pd_and (y := true) (pd_isi (T := "str") (k := false) (pd_v 2) hA hk T.f_isinstance T.f_str) (fun h => by cases h)) rfl)

/-! the history -/
def s0 : SR := ⟨none, none, 0⟩
def walkM (r : Wr) : SR → List Dx → List SR
  | _, [] => []
  | s, .str k :: xs => if (deedsM r s).contains k then doneM r s k :: walkM r (doneM r s k) xs else []
  | _, _ :: _ => []
/-- the state behind it all, if all can be done -/
def runM (r : Wr) : SR → List Dx → Option SR
  | s, [] => some s
  | s, .str k :: xs => if (deedsM r s).contains k then runM r (doneM r s k) xs else none
  | _, _ :: _ => none
theorem walk_app (r : Wr) : ∀ (xs ys : List Dx) (s s' : SR), runM r s xs = some s' → walkM r s (xs ++ ys) = walkM r s xs ++ walkM r s' ys
  | [], ys, s, s', h => by cases h; rfl
  | .str k :: xs, ys, s, s', h => by
    have h' : (if (deedsM r s).contains k then runM r (doneM r s k) xs else none) = some s' := h
    show (if (deedsM r s).contains k then doneM r s k :: walkM r (doneM r s k) (xs ++ ys) else []) = (if (deedsM r s).contains k then doneM r s k :: walkM r (doneM r s k) xs else []) ++ walkM r s' ys
    by_cases c : (deedsM r s).contains k = true
    · rw [if_pos c] at h'
      rw [if_pos c, if_pos c, walk_app r xs ys _ _ h']
      rfl
    · rw [if_neg c] at h'
      cases h'
  | .non :: _, _, _, _, h => by cases h
  | .bl _ :: _, _, _, _, h => by cases h
  | .int _ :: _, _, _, _, h => by cases h
  | .tup _ :: _, _, _, _, h => by cases h
  | .lst _ :: _, _, _, _, h => by cases h
  | .scr _ :: _, _, _, _, h => by cases h
  | .rng _ _ :: _, _, _, _, h => by cases h
  | .dic :: _, _, _, _, h => by cases h
  | .wh _ :: _, _, _, _, h => by cases h
  | .raw _ :: _, _, _, _, h => by cases h
theorem run_app (r : Wr) : ∀ (xs ys : List Dx) (s s' : SR), runM r s xs = some s' → runM r s (xs ++ ys) = runM r s' ys
  | [], ys, s, s', h => by cases h; rfl
  | .str k :: xs, ys, s, s', h => by
    have h' : (if (deedsM r s).contains k then runM r (doneM r s k) xs else none) = some s' := h
    show (if (deedsM r s).contains k then runM r (doneM r s k) (xs ++ ys) else none) = _
    by_cases c : (deedsM r s).contains k = true
    · rw [if_pos c] at h'
      rw [if_pos c, run_app r xs ys _ _ h']
    · rw [if_neg c] at h'
      cases h'
  | .non :: _, _, _, _, h => by cases h
  | .bl _ :: _, _, _, _, h => by cases h
  | .int _ :: _, _, _, _, h => by cases h
  | .tup _ :: _, _, _, _, h => by cases h
  | .lst _ :: _, _, _, _, h => by cases h
  | .scr _ :: _, _, _, _, h => by cases h
  | .rng _ _ :: _, _, _, _, h => by cases h
  | .dic :: _, _, _, _, h => by cases h
  | .wh _ :: _, _, _, _, h => by cases h
  | .raw _ :: _, _, _, _, h => by cases h
theorem walk_stop {r : Wr} {s : SR} {x : Dx} {ys : List Dx} (h : isD r s x = false) : walkM r s (x :: ys) = [] := by
  cases x with
  | str k =>
    have h' : (deedsM r s).contains k = false := h
    show (if (deedsM r s).contains k then _ else []) = []
    rw [h']
    rfl
  | _ => rfl
theorem walk_len (r : Wr) : ∀ (xs : List Dx) (s : SR), (walkM r s xs).length ≤ xs.length
  | [], _ => Nat.le_refl _
  | .str k :: xs, s => by
    show (if (deedsM r s).contains k then doneM r s k :: walkM r (doneM r s k) xs else []).length ≤ xs.length + 1
    by_cases c : (deedsM r s).contains k = true
    · rw [if_pos c, List.length_cons]
      exact Nat.succ_le_succ (walk_len r xs _)
    · rw [if_neg c]
      exact Nat.zero_le _
  | .non :: _, _ => Nat.zero_le _
  | .bl _ :: _, _ => Nat.zero_le _
  | .int _ :: _, _ => Nat.zero_le _
  | .tup _ :: _, _ => Nat.zero_le _
  | .lst _ :: _, _ => Nat.zero_le _
  | .scr _ :: _, _ => Nat.zero_le _
  | .rng _ _ :: _, _ => Nat.zero_le _
  | .dic :: _, _ => Nat.zero_le _
  | .wh _ :: _, _ => Nat.zero_le _
  | .raw _ :: _, _ => Nat.zero_le _
def R_walked (ds : List Dx) (d : Dx) : Prop := ∃ (r : Wr) (h : Dx) (xs : List Dx), ds = [.wh r, h] ∧ Sq h xs ∧ r.Ok ∧ (∀ x, x ∈ xs → Fine x) ∧ xs.length ≤ 1000 ∧ d = .lst ((walkM r s0 xs).map dS)
theorem ok_walked (Fn : Fun K "walked" "walked" s_walked f fd) (T : Tx K mg C) (D_is_deed : Df P w K mg base CX0 3 "is_deed" ["wheel", "state", "value"] (SpF K C R_is_deed)) (D_done : Df P w K mg base CX0 4 "done" ["wheel", "state", "deed"] (SpF K C R_done)) :
    FnOk P w K mg base CX0 5 f fd ["wheel", "history"] (SpF K C R_walked) := by
  refine Fun.okD Fn c_walked ?_ ?_
  · rintro ds d ⟨r, o, x, rfl, _, _, _, _, rfl⟩; rfl
  · rintro cdv A outer s H E G0 H0 ds d hr ⟨r, hh, xs, rfl, hq, ok, hf, hl, rfl⟩
    refine bb_cons (ss_parOwnR 2 3 rfl c_walked.nd (pd_gk T.k_START) ?_)
    refine bb_cons (ss_for (ds := xs) (fun k Γ => ∃ (s' : SR) (o : Option Sl), runM r s0 (xs.take k) = some s' ∧ Γ = [some (.d (.wh r)), some (.d hh), some (.d (dS s')), some (.own ((walkM r s0 (xs.take k)).map dS)), o]) PassesOwn.never rfl (pl_seq (pd_v 1) hq) ⟨s0, none, rfl, rfl⟩ ?_ ?_)
    · rintro k d Γ1 hd ⟨s', o, hrun, rfl⟩
      refine ⟨_, [4], gd_name 4 c_walked.nd, ?_⟩
      have hfine := hf d (List.mem_of_getElem? hd)
      have tk := take_more hd
      have split : xs = xs.take k ++ d :: xs.drop (k + 1) := by
        have hk := (List.getElem?_eq_some_iff.mp hd)
        obtain ⟨hk, e⟩ := hk
        rw [← e, ← List.drop_eq_getElem_cons hk, List.take_append_drop]
      refine bb_cons (ss_if (td_not (td_val (pd_call D_is_deed hr pass0 (ad_cons (pd_v 0) (ad_cons (pd_v 2) (ad_cons (pd_v 4) ad_nil))) ⟨r, s', d, rfl, hfine, rfl⟩))) (fun h => ?_) (fun h => bb_nil ?_))
      · have hno : isD r s' d = false := by simpa using h
        have e : walkM r s0 xs = walkM r s0 (xs.take k) := by
          rw [split, walk_app r _ _ _ _ hrun, walk_stop hno, List.append_nil, ← split]
        rw [e]
        exact bb_one (ss_retOwn (i := 3) rfl rfl)
      · have hyes : isD r s' d = true := by simpa using h
        obtain ⟨q, rfl⟩ : ∃ q, d = .str q := by
          cases d with
          | str q => exact ⟨q, rfl⟩
          | _ => cases hyes
        have hc : (deedsM r s').contains q = true := hyes
        have e1 : walkM r s0 (xs.take (k + 1)) = walkM r s0 (xs.take k) ++ [doneM r s' q] := by
          rw [tk, walk_app r _ _ _ _ hrun]
          show _ ++ (if (deedsM r s').contains q then _ else []) = _
          rw [if_pos hc]
          rfl
        have e2 : runM r s0 (xs.take (k + 1)) = some (doneM r s' q) := by
          rw [tk, run_app r _ _ _ _ hrun]
          show (if (deedsM r s').contains q then _ else none) = _
          rw [if_pos hc]
          rfl
        refine bb_cons (ss_set 2 c_walked.nd (pd_call D_done hr pass0 (ad_cons (pd_v 0) (ad_cons (pd_v 2) (ad_cons (pd_v 4) ad_nil))) ⟨r, s', q, rfl, ok, List.contains_iff_mem.mp hc, rfl⟩) ?_)
        refine bb_one (ss_append 3 (pd_v 2) ?_ ⟨doneM r s' q, some (.d (.str q)), e2, ?_⟩)
        · rw [List.length_map]
          refine Nat.le_trans (walk_len r _ _) ?_
          rw [List.length_take]
          omega
        · rw [e1, List.map_append]
          rfl
    · rintro Γ1 ⟨s', o, hrun, rfl⟩
      rw [List.take_length]
      exact bb_one (ss_retOwn (i := 3) rfl rfl)

def R_first_state (ds : List Dx) (d : Dx) : Prop := ∃ (r : Wr), ds = [.wh r] ∧ d = dS s0
theorem ok_first_state (Fn : Fun K "first_state" "first_state" s_first_state f fd) (T : Tx K mg C) (D_check_wheel : Df P w K mg base CX0 1 "check_wheel" ["value"] (SpF K C R_check_wheel)) : FnOk P w K mg base CX0 2 f fd ["wheel"] (SpF K C R_first_state) := by
  refine Fun.okD Fn c_first_state ?_ ?_
  · rintro ds d ⟨r, rfl, rfl⟩; rfl
  · rintro cdv A outer s H E G0 H0 ds d hr ⟨r, rfl, rfl⟩
    refine bb_cons (ss_expr (pd_call D_check_wheel hr pass0 (ad_cons (pd_v 0) ad_nil) ⟨r, rfl, rfl⟩) ?_)
    exact bb_one (ss_ret (pd_gk T.k_START) rfl)
def R_deeds (ds : List Dx) (d : Dx) : Prop := ∃ (r : Wr) (s : SR), ds = [.wh r, dS s] ∧ s.Ok r ∧ d = .lst ((deedsM r s).map Dx.str)
theorem ok_deeds (Fn : Fun K "deeds" "deeds" s_deeds f fd) (T : Tx K mg C) (D_check_state : Df P w K mg base CX0 6 "check_state" ["wheel", "state"] (SpF K C R_check_state)) (D_deeds_in : Df P w K mg base CX0 2 "deeds_in" ["wheel", "state"] (SpF K C R_deeds_in)) :
    FnOk P w K mg base CX0 7 f fd ["wheel", "state"] (SpF K C R_deeds) := by
  refine Fun.okD Fn c_deeds ?_ ?_
  · rintro ds d ⟨r, o, rfl, _, rfl⟩; rfl
  · rintro cdv A outer s H E G0 H0 ds d hr ⟨r, o, rfl, ok, rfl⟩
    refine bb_cons (ss_expr (pd_call D_check_state hr pass0 (ad_cons (pd_v 0) (ad_cons (pd_v 1) ad_nil)) ⟨r, o, rfl, ok, rfl⟩) ?_)
    exact bb_one (ss_ret (pd_call D_deeds_in hr pass0 (ad_cons (pd_v 0) (ad_cons (pd_v 1) ad_nil)) ⟨r, o, rfl, rfl⟩) rfl)
/-- what the reader sees -/
def rdSee (r : Wr) (s : SR) : Dx := match s.rd with
  | none => .non
  | some (p, _) => .bl (seesM r s.row p)
def R_sights (ds : List Dx) (d : Dx) : Prop := ∃ (r : Wr) (s : SR), ds = [.wh r, dS s] ∧ r.Ok ∧ s.Ok r ∧ d = .tup [rdSee r s, .bl (seesM r s.row 0)]
theorem ok_sights (Fn : Fun K "sights" "sights" s_sights f fd) (T : Tx K mg C) (D_check_state : Df P w K mg base CX0 6 "check_state" ["wheel", "state"] (SpF K C R_check_state)) (D_sees : Df P w K mg base CX0 2 "sees" ["wheel", "row", "picture"] (SpF K C R_sees)) :
    FnOk P w K mg base CX0 7 f fd ["wheel", "state"] (SpF K C R_sights) := by
  refine Fun.okD Fn c_sights ?_ ?_
  · rintro ds d ⟨r, o, rfl, _, _, rfl⟩; rfl
  · rintro cdv A outer s H E G0 H0 ds d hr ⟨r, ⟨row, rd, tb⟩, rfl, okr, ok, rfl⟩
    refine bb_cons (ss_expr (pd_call D_check_state hr pass0 (ad_cons (pd_v 0) (ad_cons (pd_v 1) ad_nil)) ⟨r, _, rfl, ok, rfl⟩) ?_)
    refine bb_cons (ss_asg (is := [2, 3, 4]) (pd_v 1) (gd_tup rfl (gds_cons (gd_name 2 c_sights.nd) (gds_cons (gd_name 3 c_sights.nd) (gds_cons (gd_name 4 c_sights.nd) gds_nil)))) ?_)
    cases rd with
    | none => exact bb_one (ss_ret (pd_tup (ad_cons (pd_if (d := .non) (td_isN (pd_v 3)) (fun h => pd_non) (fun h => by cases h)) (ad_cons (pd_call D_sees hr pass0 (ad_cons (pd_v 0) (ad_cons (pd_v 2) (ad_cons pd_int ad_nil))) ⟨r, row, 0, rfl, okr, rfl⟩) ad_nil))) rfl)
    | some q =>
      obtain ⟨p, b⟩ := q
      exact bb_one (ss_ret (pd_tup (ad_cons (pd_if (d := .bl (seesM r row p)) (td_isN (pd_v 3)) (fun h => by cases h) (fun h => (pd_call D_sees hr pass0 (ad_cons (pd_v 0) (ad_cons (pd_v 2) (ad_cons (pd_tx (pd_v 3) pd_int) ad_nil))) ⟨r, row, p, rfl, okr, rfl⟩))) (ad_cons (pd_call D_sees hr pass0 (ad_cons (pd_v 0) (ad_cons (pd_v 2) (ad_cons pd_int ad_nil))) ⟨r, row, 0, rfl, okr, rfl⟩) ad_nil))) rfl)
end
end Lap
set_option maxHeartbeats 4000000
/-! BadHistory's __init__: super().__init__(..), then a field. -/
namespace Lap
open PySem PySem.Spec L2
open PyProof.Rows hiding St
section
variable {P : Program} {w : World} {K : PySem.W.Frag} {mg : Str → Option Value} {base : Heap} {C fI cda cc : Addr} {fd : FuncData}
/-- what the written part says of BadHistory and its __init__ -/
structure BhT (P : Program) (K : PySem.W.Frag) (mg : Str → Option Value) (C fI cda cc : Addr) (fd : FuncData) : Prop where
  fn : ∃ (oc dV kV doc pm ct : Value) (od an : Option Addr) (osl : Array (Option Value)), fd = PySem.W.ksFn "__init__" "BadHistory.__init__" (defArgs s_BadHistoryInit) (defBody s_BadHistoryInit) (defScope s_BadHistoryInit) dV kV doc pm an (.ref cda) ct cc ∧
    K.lookup fI = some ⟨oc, od, .func fd, osl⟩ ∧ ∃ (T : Addr) (o : Obj) (its : Array Value) (n : Nat), dV = .ref T ∧ K.lookup T = some o ∧ o.data = .seq its n
  cd : PySem.W.codeIn K (.ref cda) "BadHistory.__init__" = true
  code : ∃ (ccl : Value) (cdd : Option Addr) (vs : Array Value) (ccs : Array (Option Value)) (file : Str) (tf : Tok), K.lookup cda = some ⟨ccl, cdd, .fields vs, ccs⟩ ∧ vs[2]? = some (.str file tf) ∧ ((P.main.file : Str) == file) = true
  cell : ∃ (cl : Value) (cld : Option Addr) (csl : Array (Option Value)), K.lookup cc = some ⟨cl, cld, .cell (some (.ref C)), csl⟩
  cls : ∃ c, PySem.W.clsIn K C = some c
  sub : PySem.W.mroIn K C (.ref C) = some true
  opq : PySem.W.nsIn K cStatics "thirdparty.any" = some none
  sup : PySem.W.ks_superIn K C C "__init__" = some (some (.builtin "ValueError.__init__"))
  sVE : PySem.W.subIn K (.ref C) (.type "ValueError") = some true
  oex : OexC K C
  noI : PySem.W.findIn K (.ref C) "index" = some none
  mS : mg "super" = none
  mT : mg "str" = none
  top : (P.main.scope.names.lookup ("super" : Str)).isSome = false
/-- None, or a small number -/
def IxOk (y : V) : Prop := y = .non ∨ ∃ n : Nat, n ≤ 100 ∧ y = .int (n : Int)
/-- __init__(self, index): self gets its dict, with index in it -/
def spBh (C : Addr) : Sp := fun vs H Q _ => ∃ (a : Addr) (y : V), vs = [.ref a, y] ∧ IxOk y ∧ H a = some (exo a C none) ∧ ∀ dx, H dx = none → dx ≠ a → Q .non (upd (upd H dx (exd dx [("index", y)])) a (exo a C (some dx)))
/-- the frame's context -/
abbrev bhX (P : Program) (w : World) (K : PySem.W.Frag) (mg : Str → Option Value) (base : Heap) (fd : FuncData) (fI : Addr) (A : Around) (outer : List Env) (s : Shared) (H : Hp) : Cx where
  prog := P
  w := w
  K := K
  mg := mg
  base := base
  A := A.deeper (callEnv fd s.heap.objs.size fI)
  N := ["self", "index"]
  s_0 := s
  H_0 := H
  env := callEnv fd s.heap.objs.size fI
  outer := outer
  stack := callEnv fd s.heap.objs.size fI :: outer
  ex := []
  fn := fun x => x != "__class__"
  calm := true
  pn := []
  xe := fun _ _ => False
theorem bh_len : ∀ n : _root_.Fin 101, ("this cannot be done: " : Str).length + (PySem.Str.ofString (toString ((n.val : Nat) : Int))).length ≤ 1000 := by decide +kernel
theorem bh_log : ∀ n : _root_.Fin 101, (((n.val : Nat) : Int)).natAbs.log2 < 1920 := by decide +kernel
/-- the built-in __init__ bound to the object, called -/
theorem call_mw {M : Program} {w : World} {A : Around} {E : Value → Shared → Prop} {h : Heap} {g : Array GenState} {d : Drawn} {t : Nat} {os : OsState} {u e t0 : Addr} {rest : List Value} {Q : Value → Shared → Prop}
    {nm q : Str} {N : Addr} {bs bm : List Value} {sn : List Str} {sub : List Value} {ab : Bool} {col : Option Bool} {dd : Option Addr} {k0 k1 k2 k3 k5 : Option Value}
    (hC : h.get? C = some (excClassObj nm q C N bs bm true sn sub ab col dd k0 k1 k2 k3 k5 "ValueError.__new__")) (he : h.get? e = some (PySem.HandSPX.excO C t0)) (hu : h.get? u = some (PySem.W.kxs_mw "ValueError.__init__" e)) (hz : rest.length ≤ sizeLine)
    (hq : ∀ h' t1, (∀ b o, b ≠ e → h.get? b = some o → h'.get? b = some o) → h'.get? e = some (PySem.HandSPX.excO C t1) → Q .none ⟨h', g, d, t, os⟩) :
    wpAny (model M w) A (call (.ref u) rest) Q E ⟨h, g, d, t, os⟩ := by
  refine wpAny_call (codeAny_of_tree ?_)
  show wpAny _ A.in1 (callAny (.ref u) ⟨rest, []⟩) _ _ _
  simp only [callAny]
  refine wpAny_bind (wpAny_load hu ?_)
  simp only [PySem.W.kxs_mw, show (Value.type "method-wrapper" == Value.type "method" || Value.type "method-wrapper" == Value.type "builtin_function_or_method" || Value.type "method-wrapper" == Value.type "method-wrapper") = true by decide, if_true]
  refine PySem.W.KFB.if_so (by decide) ?_
  refine wpAny_bind (PySem.W.check_bound_init F.excBase_ValueError.toExcCallFacts hC he rfl ?_)
  refine wpAny_bind (wpAny_pure (wpAny_pure ?_))
  refine ⟨plainId_quiet F.excBase_ValueError.init.plain _, codeAny_builtin F.excBase_ValueError.initEntry ?_⟩
  exact PySem.W.exc_init_tree (cls := .ref C) (t0 := t0) (dv := none) (c2 := .none) (c3 := .none) (b4 := .bool false) he hz fun h' k e' _ => hq h' _ k e'
/-- the frame of such a call: self and index in its slots -/
theorem inv_bh {dV kV doc pm ct : Value} {an : Option Addr} {A : Around} {outer : List Env} {s : Shared} {H : Hp} {h₀ : Heap} {tk : Nat} {a : Addr} {y : V} {u2 : Value} {cl : Value} {cld : Option Addr} {csl : Array (Option Value)}
    (hfd : fd = PySem.W.ksFn "__init__" "BadHistory.__init__" (defArgs s_BadHistoryInit) (defBody s_BadHistoryInit) (defScope s_BadHistoryInit) dV kV doc pm an (.ref cda) ct cc)
    (hd : A.handled = none) (e0 : Env0 P w K mg base A outer s H) (lcc : K.lookup cc = some ⟨cl, cld, .cell (some (.ref C)), csl⟩) (r2 : RelV y u2)
    (hns : h₀.Ns s.heap.objs.size fun x => List.lookup x ((["self", "index"] : List Str).zip [.ref a, u2]).reverse) (hk : ∀ b o, s.heap.get? b = some o → h₀.get? b = some o) :
    Inv (bhX P w K mg base fd fI A outer s H) [] [some (.ref a), some y] H { s with heap := h₀, toks := tk } := by
  have cells : (bhX P w K mg base fd fI A outer s H).env.cells = [(("__class__" : Str), cc)] := by rw [hfd]; rfl
  have names : (bhX P w K mg base fd fI A outer s H).env.scope = defScope s_BadHistoryInit := by rw [hfd]; rfl
  have only : ∀ x c, (bhX P w K mg base fd fI A outer s H).env.cells.lookup x = some c → x = "__class__" ∧ c = cc := fun x c e => by
    rw [cells] at e
    by_cases hx : x = "__class__"
    · subst hx
      simp [List.lookup] at e
      exact ⟨rfl, e.symm⟩
    · have : (x == ("__class__" : Str)) = false := by simpa using hx
      simp [List.lookup, this] at e
  have bcc := e0.mod.kin cc _ lcc
  obtain ⟨scc, ncc⟩ := e0.bs cc _ bcc
  have hcell : h₀.IsCell cc (some (.ref C)) := ⟨_, hk _ _ scc, rfl⟩
  have none_ex : ∀ b : Addr, b ∉ (bhX P w K mg base fd fI A outer s H).ex := fun b z => absurd (show b ∈ ([] : List Addr) from z) (by simp)
  refine ⟨⟨e0.mod, by rw [names]; rfl, by rw [hfd]; rfl, by rw [hfd]; rfl, ?_, fun x z c h1 h2 => ?_, fun x hx => ?_, fun x c hf h => ?_, fun _ => hd, Around.frames_deeper e0.frames, .inr ⟨rfl, by rw [hfd]; rfl⟩, fun b z => absurd z (none_ex b), e0.bs, e0.bsz, fun b _ _ => none_ex b, fun b z => absurd z (none_ex b), e0.funs, e0.frf⟩,
    rfl, e0.bare, Un.kept hk, ⟨fun x => List.lookup x ((["self", "index"] : List Str).zip [.ref a, u2]).reverse, ?_, fun i x v h1 h2 h3 => ?_⟩, fun x c h => ?_, ?_, fun x c h => ?_, fun p hp => absurd (show p ∈ ([] : List (Addr × Obj)) from hp) (by simp), e0.hok.kept hk, rfl⟩
  · rw [hfd]; exact Nat.le_refl _
  · rw [(only x c h1).1, (only z c h2).1]
  · have hx' : (defScope s_BadHistoryInit).names.lookup x = some .cell ∨ (defScope s_BadHistoryInit).names.lookup x = some .free := by
      rw [← names]
      exact hx
    refine ⟨cc, ?_⟩
    rw [cells]
    have hcl : x = "__class__" := by
      have hm : x ∈ (defScope s_BadHistoryInit).names.map (·.1) := by
        rcases hx' with e | e <;> exact List.mem_map.mpr ⟨(x, _), PySem.mem_of_lookup e, rfl⟩
      have hm' : x ∈ ([("self" : Str), "index", "__class__", "super", "str"] : List Str) := hm
      rcases List.mem_cons.mp hm' with rfl | hm'
      · rcases hx' with e | e <;> exact absurd e (by decide +kernel)
      rcases List.mem_cons.mp hm' with rfl | hm'
      · rcases hx' with e | e <;> exact absurd e (by decide +kernel)
      rcases List.mem_cons.mp hm' with rfl | hm'
      · rfl
      rcases List.mem_cons.mp hm' with rfl | hm'
      · rcases hx' with e | e <;> exact absurd e (by decide +kernel)
      rcases List.mem_cons.mp hm' with rfl | hm'
      · rcases hx' with e | e <;> exact absurd e (by decide +kernel)
      cases hm'
    rw [hcl]
    rfl
  · have hf' : (x != ("__class__" : Str)) = true := hf
    rw [(only x c h).1] at hf'
    simp at hf'
  · rw [hfd]; exact hns
  · rcases i with _ | _ | i
    · have ex : ("self" : Str) = x := Option.some.inj h1
      have ev : V.ref a = v := Option.some.inj (Option.some.inj h2)
      subst ex
      subst ev
      exact ⟨.ref a, rfl, .inl ⟨by rw [hfd]; rfl, by rfl⟩⟩
    · have ex : ("index" : Str) = x := Option.some.inj h1
      have ev : y = v := Option.some.inj (Option.some.inj h2)
      subst ex
      subst ev
      exact ⟨u2, r2, .inl ⟨by rw [hfd]; rfl, rfl⟩⟩
    · cases h2
  · rw [(only x c h).2]
    exact ⟨_, hcell⟩
  · rw [hfd]
    exact e0.hok.fresh (Nat.le_refl _)
  · rw [(only x c h).2]
    exact ncc
/-- one plain argument to a bound built-in __init__ -/
theorem mw_with {M : Model} {A : Around} {E : Value → Shared → Prop} {s : Shared} {i : String} {u x : Addr} {pos : Pos} {env : Env} {e : Expr} {rest : List Expr} {Q : Value → Shared → Prop}
    (h : wpAny M A (spliced (backTo pos (starEach (e :: rest) env))) (fun vs s₁ => PySem.W.KxsAt i u x s₁.heap ∧ wpAny M A (call (.ref u) vs) Q E s₁) E s)
    (he : starEach (e :: rest) env = (false, eval e env) :: starEach rest env := by rfl) (hp : (backTo pos (starEach rest env)).any (·.1) = false := by rfl) :
    wpAny M A (callWith pos (.ref u) [] (backTo pos (starEach (e :: rest) env)) []) Q E s := by
  rw [he] at h ⊢
  exact PySem.W.kxs_callWith (by show (false || (backTo pos (starEach rest env)).any (·.1)) = false; rw [hp]; rfl) (Calls.evalArgs_plain h)
theorem pa_go {X : Cx} {es : List Expr} {ta : TA} {pos : Pos} {pins : List (Addr × Obj)} {s : Shared} {σ : L2.St} {H : Hp} {Q : List V → Hp → Prop} (I : Inv X pins σ H s) (h : PA X es ta) (q : ta σ H Q) :
    wpAny (model X.prog X.w) X.A (spliced (backTo pos (starEach es X.env))) (AP X pins σ Q) X.xe s := h.run pos pins s σ H Q I q
theorem ok_bh (T : BhT P K mg C fI cda cc fd) : FnOk P w K mg base CX0 1 fI fd ["self", "index"] (spBh C) := by
  refine ⟨fun vs H Q E h => ?_, fun A outer s H args us vs Q E hr e0 hb r h => ?_⟩
  · obtain ⟨a, y, rfl, _⟩ := h
    rfl
  obtain ⟨a, y, rfl, hy, ha, hq⟩ := h
  obtain ⟨u1, u2, rfl, r1, r2⟩ := vals2 r
  obtain rfl : u1 = Value.ref a := r1
  obtain ⟨oc, dV, kV, doc, pm, ct, od, an, osl, hfd, lk, Td, o, its, n, hdV, lT, oT⟩ := T.fn
  have KX : K.In s.heap := e0.mod.kin.keeps fun b o e => (e0.bs b o e).1
  have lim : s.heap.NoLimit := e0.mod.nolimit.keeps fun b o e => (e0.bs b o e).1
  obtain ⟨cl, cld, csl, lcc⟩ := T.cell
  refine PySem.ks_codeAny_call_defAt (fd := fd) (body := defBody s_BadHistoryInit) (binds := (["self", "index"] : List Str).zip [.ref a, u2]) hr.depth (KX _ _ lk) rfl lim (by rw [hfd]; exact PySem.W.codeRec_of KX T.cd) (by rw [hfd]) hb ?_ ?_ (fun h₀ hns hk => ?_) (by rw [hfd]; rfl) (by rw [hfd]; rfl) (by rw [hfd]; rfl)
  · rw [hfd]
    exact (by decide +kernel : ∀ x ∈ (defScope s_BadHistoryInit).names, x.2 ≠ .cell)
  · rw [hfd]
    intro x hx
    rcases List.mem_cons.mp hx with rfl | hx
    · rfl
    rcases List.mem_cons.mp hx with rfl | hx
    · rfl
    cases hx
  have I : Inv (bhX P w K mg base fd fI A outer s H) [] [some (.ref a), some y] H { s with heap := h₀, toks := s.toks + ((["self", "index"] : List Str).zip [.ref a, u2]).length } := inv_bh hfd hr.hd e0 lcc r2 hns hk
  have fin : ∀ {s' : Shared} {σ' : L2.St} {H' : Hp}, Inv (bhX P w K mg base fd fI A outer s H) [] σ' H' s' → Q .non H' → CR CX0 outer P w H s Q E (.ok (.ret .none)) s' := fun {s' σ' H'} J q => ⟨.non, H', J.os, J.bare, J.base, J.hok, rfl, q⟩
  show _root_.PySem.wpAt (model P w) (bhX P w K mg base fd fI A outer s H).A (.func (defBody s_BadHistoryInit) (bhX P w K mg base fd fI A outer s H).env) (execs (defBody s_BadHistoryInit) (bhX P w K mg base fd fI A outer s H).env) _ _ _
  generalize ({ s with heap := h₀, toks := s.toks + ((["self", "index"] : List Str).zip [.ref a, u2]).length } : Shared) = s1 at I ⊢
  subst hfd
  -- super().__init__(..)
  refine PySem.ks_wpAt_execs_cons (PySem.ks_wpAt_Expr_any (PySem.ks_wpAt_MethodCall ?_ (by rfl)) I.quiet (by rfl))
  obtain ⟨ccl, cdd, vs, ccs, file, tf, lcd, hvs, hfile⟩ := T.code
  obtain ⟨nm, q, N, bs, bm, sn, sub, ab, col, dd, k0, k1, k2, k3, k5, hCl, hbm⟩ := T.oex.cls
  obtain ⟨c, hc⟩ := T.cls
  refine PySem.ks_wpAt_super_base (by rfl) (by rfl) (by decide) rfl (I.kIn _ _ lk) rfl (by rfl) rfl (I.kIn _ _ lcd) rfl hvs hfile T.top ?_
  obtain ⟨mb, hb1, hb2⟩ := I.mod.blt
  refine PySem.W.ks_loadName_global (by rfl) (by rfl) (Calls.loadGlobal_builtin (I.mod.glob.keeps I.bk) T.mS (hb1.keeps I.bk) ((hb2 _ (by decide)).trans (by decide +kernel)) ⟨rfl, ?_⟩)
  refine wpAny_loadName_free (by rfl) (by rfl) (by rfl) ⟨_, I.kIn _ _ lcc, rfl⟩ ?_
  obtain ⟨m, hn, hl⟩ := I.loc
  obtain ⟨us, rus, hus⟩ := hl 0 "self" (.ref a) rfl rfl (Or.inl (by rfl))
  obtain rfl : us = Value.ref a := rus
  have hself : m "self" = some (.ref a) := by
    rcases hus with ⟨_, e⟩ | ⟨e, _⟩
    · exact e
    · rcases e with e | e
      · exact absurd (show some NameKind.local = some NameKind.cell from e) (by decide)
      · exact absurd (show some NameKind.local = some NameKind.free from e) (by decide)
  refine wpAny_loadName_local (by rfl) (by rfl) hn hself ?_
  refine PySem.ks_wpAny_isType_cls (I.kIn _ _ hCl) rfl ⟨rfl, ?_⟩
  obtain ⟨t1, ho⟩ := exo_at I.hok ha
  obtain ⟨hp, g, d, t, os⟩ := s1
  refine PySem.ks_wpAny_call_super (I.kIn _ _ hCl) rfl ho rfl (fun c e => by cases e) (PySem.W.looks_mroIn I.kIn T.sub) fun h2 e2 kp2 => ?_
  have I2 : Inv (bhX P w K mg base _ fI A outer s H) [] [some (.ref a), some y] H ⟨h2, g, d, t, os⟩ := I.kept (t' := t) kp2
  have e2' : h2.get? hp.objs.size = some { cls := .type "super", dict := none, data := .fields #[.ref C, .ref a, .ref C], slots := #[] } := e2
  have ho2 := kp2 _ _ ho
  have hsup := T.sup
  unfold PySem.W.ks_superIn at hsup
  rw [hc] at hsup
  have hCn : H C = none := (I.bs C _ (I.mod.kin C _ hCl)).2
  have haC : a ≠ C := fun z => by rw [z, hCn] at ha; cases ha
  have hI : PySem.W.Looks (model P w) h2 (isInstance (.ref a) (.type "ValueError")) true :=
    PySem.W.InstAt.type (h := h2) (x := a) (C := C) (od := none) ⟨ho2, rfl, rfl, trivial⟩ |>.andThen (PySem.W.looks_subIn I2.kIn T.sVE)
  refine PySem.W.kxs_getMethod PySem.W.kxs_ValueError e2' (PySem.W.looks_opaque I2.kIn T.opq) (l₀ := c.mro) (fun A Q E s k q => wpAny_bind ((PySem.W.looks_clsIn I2.kIn hc) A _ E s k (wpAny_pure q))) rfl I2.kIn hsup hI haC (by decide) ?_
  -- the method-wrapper at u, pinned
  have I3 : Inv (bhX P w K mg base _ fI A outer s H) [] [some (.ref a), some y] H ⟨h2.push (PySem.W.kxs_mw "ValueError.__init__" a), g, d, t + 1, os⟩ := I2.kept (t' := t + 1) fun b o e => Heap.get?_push_of_some _ e
  have hu : (h2.push (PySem.W.kxs_mw "ValueError.__init__" a)).get? h2.objs.size = some (PySem.W.kxs_mw "ValueError.__init__" a) := Heap.get?_push_size _ rfl
  have I4 : Inv (bhX P w K mg base _ fI A outer s H) [(h2.objs.size, PySem.W.kxs_mw "ValueError.__init__" a)] [some (.ref a), some y] H ⟨h2.push (PySem.W.kxs_mw "ValueError.__init__" a), g, d, t + 1, os⟩ := I3.pins_of fun p hp => by
    obtain rfl := List.mem_singleton.mp hp
    exact ⟨hu, I2.hok.fresh (Nat.le_refl _), Nat.ne_of_gt I2.lt, I2.nofs (Nat.le_refl _), fun v z => by cases z⟩
  have lock : ∀ n : Nat, n ≤ 100 → ("this cannot be done: " : Str).length + (PySem.Str.ofString (toString (n : Int))).length ≤ 1000 := fun n hn => bh_len ⟨n, by omega⟩
  have lol : ∀ n : Nat, n ≤ 100 → (n : Int).natAbs.log2 < 1920 := fun n hn => bh_log ⟨n, by omega⟩
  refine mw_with (i := "ValueError.__init__") (x := a) ?_
  refine wpAny_mono (pa_go I4 (pa_cons (pe_ifExp (pt_cmpR op_isN (pv 1) pe_non (nomark _)) pe_str (pe_op op_add_str pe_str (pe_callTy call_str_int (by rfl) T.mT PyProof.Rows.boot_str (pa_cons (pv 1) pa_nil)))) pa_nil) (Q := fun vs H' => ∃ x, vs = [.str x] ∧ H' = H) ?_) (fun us s5 h5 => ?_) fun _ _ z => False.elim z
  · rcases hy with rfl | ⟨n, hn, rfl⟩
    · exact ⟨.non, rfl, rfl, true, by simp, ⟨_, rfl, rfl⟩⟩
    · exact ⟨.int n, rfl, rfl, false, by simp, ⟨.int n, rfl, n, rfl, lol n hn, ⟨_, _, rfl, rfl, Nat.le_trans (lock n hn) (by decide), ⟨_, rfl, rfl⟩⟩⟩⟩
  obtain ⟨vs5, H5, I5, r5, x5, rfl, rfl⟩ := h5
  have hx5 : ∃ t5, us = [.str x5 t5] := by
    cases r5 with
    | @cons _ u0 _ ur ra rw' =>
      cases rw'
      obtain ⟨t5, rfl⟩ := ra
      exact ⟨t5, rfl⟩
  obtain ⟨t5, rfl⟩ := hx5
  refine ⟨ClX.pin_at I5, ?_⟩
  obtain ⟨t6, ho6⟩ := exo_at I5.hok ha
  obtain ⟨hp5, g5, d5, tk5, os5⟩ := s5
  refine call_mw (I5.kIn _ _ hCl) ho6 (ClX.pin_at I5) (show 1 ≤ sizeLine by decide) fun h' t7 k7 e7 => ?_
  have J0 := (ClX.unpin I5).write (t' := tk5) (x := a) (e := a) (o := exo a C none) (by rw [ha]; exact True.intro) (.inl rfl) k7 ⟨_, e7⟩ (exo_ok e7)
  have eu : upd H5 a (exo a C none) = H5 := by
    funext b
    by_cases hb : b = a
    · rw [hb, upd_same, ha]
    · rw [upd_ne hb]
  rw [eu] at J0
  refine wpAt_of_any (wpAny_mono ((pss_one (ps_ost (pv 0) (pv 1))).run [] _ _ _ { nx := fun _ H' => Q .non H', rt := fun _ _ => False } J0 ?_) (fun fl s6 h6 => ?_) fun _ _ z => False.elim z)
  · exact ⟨y, rfl, .ref a, rfl, a, C, rfl, T.oex, T.noI, .inl ⟨ha, fun dx n ne => hq dx n ne⟩⟩
  · cases fl with
    | next =>
      obtain ⟨σ6, H6, I6, q6⟩ := h6
      exact fin I6 q6
    | brk =>
      obtain ⟨σ6, H6, I6, q6⟩ := h6
      exact q6.elim
    | cont =>
      obtain ⟨σ6, H6, I6, q6⟩ := h6
      exact q6.elim
    | ret u =>
      obtain ⟨v6, σ6, H6, I6, r6, q6⟩ := h6
      exact q6.elim
end
end Lap
set_option maxHeartbeats 4000000
/-! What raises: BadDeed, BadHistory, through defs. -/
namespace Lap
open PySem PySem.Spec L2
open PyProof.Rows hiding St
/-- what the written part says of BadDeed -/
structure BdT (K : PySem.W.Frag) (mg : Str → Option Value) (CB : Addr) : Prop where
  x : PySem.W.excIn K CB [.type "ValueError", .type "Exception", .type "BaseException", .type "object"] "ValueError.__new__" = true
  k : PySem.W.keepIn K (.ref CB) = true
  g : mg "BadDeed" = some (.ref CB)
  b : PySem.W.subIn K (.ref CB) (.type "BaseException") = some true
  t : PySem.W.typeIn K (.ref CB) = some (.type "type")
/-- called with ds that R holds of, BadDeed leaves it -/
def SpB (K : PySem.W.Frag) (C CB : Addr) (R : List Dx → Prop) : Sp := fun vs H _ E => ∃ G ds, Same G H ∧ DXs K C G vs ds ∧ R ds ∧ ∀ G' H', Ext4 G H G' H' → E (.ref CB) none H'
/-- called with ds that R joins with y, BadHistory leaves it with index y -/
def SpH (K : PySem.W.Frag) (C CB : Addr) (R : List Dx → V → Prop) : Sp := fun vs H _ E => ∃ G ds y, Same G H ∧ DXs K C G vs ds ∧ R ds y ∧ ∀ d G' H', Ext4 G H G' H' → H' d = some (.xd [("index", y)]) → E (.ref CB) (some d) H'
section
variable {P : Program} {w : World} {K : PySem.W.Frag} {mg : Str → Option Value} {base : Heap} {C : Addr}
abbrev BR (P : Program) (w : World) (K : PySem.W.Frag) (mg : Str → Option Value) (base : Heap) (N : List Str) (qual : Str) (st : Stmt) (f : Addr) (cdv : Value) (A : Around) (outer : List Env) (s : Shared) (H : Hp) (E : XK) : Cx := cxOf (L2.CX P w) P w K mg base N qual (defScope st) f cdv A outer s H E
theorem Fun.okB {CB : Addr} {x qual : Str} {st : Stmt} {f : Addr} {fd : FuncData} {N ps : List Str} {k : Nat} {R : List Dx → Prop} (Fn : Fun K x qual st f fd) (S : FnScope N ps (defScope st)) (len : ∀ ds, R ds → ds.length = ps.length)
    (hb : ∀ (cdv : Value) (A : Around) (outer : List Env) (s : Shared) (H : Hp) (E : XK) (G0 : Hp) (ds : List Dx), Room k (BR P w K mg base N qual st f cdv A outer s H E).A → R ds → (∀ G' H', Ext4 G0 H G' H' → E (.ref CB) none H') →
      BB (BR P w K mg base N qual st f cdv A outer s H E) ⟨C, G0, H⟩ (Γ0 N.length ds) (defBody st) (fun _ => False) (fun _ => False)) : FnOk P w K mg base (L2.CX P w) (k + 1) f fd ps (SpB K C CB R) := by
  refine Fn.okX S (fun vs H Q E h => ?_) (fun cdv A outer s H vs Q E hr h => ?_)
  · obtain ⟨G, ds, _, dx, hR, _⟩ := h
    rw [dx.length]
    exact len ds hR
  · obtain ⟨G, ds, sm, dx, hR, q⟩ := h
    exact ⟨_, hb cdv A outer s H E G ds hr hR q, G, start_st sm dx, fun _ _ _ _ _ _ z => z.elim, fun _ _ _ _ _ _ z => z.elim⟩
theorem Fun.okH {CB : Addr} {x qual : Str} {st : Stmt} {f : Addr} {fd : FuncData} {N ps : List Str} {k : Nat} {R : List Dx → V → Prop} (Fn : Fun K x qual st f fd) (S : FnScope N ps (defScope st)) (len : ∀ ds y, R ds y → ds.length = ps.length)
    (hb : ∀ (cdv : Value) (A : Around) (outer : List Env) (s : Shared) (H : Hp) (E : XK) (G0 : Hp) (ds : List Dx) (y : V), Room k (BR P w K mg base N qual st f cdv A outer s H E).A → R ds y → (∀ d G' H', Ext4 G0 H G' H' → H' d = some (.xd [("index", y)]) → E (.ref CB) (some d) H') →
      BB (BR P w K mg base N qual st f cdv A outer s H E) ⟨C, G0, H⟩ (Γ0 N.length ds) (defBody st) (fun _ => False) (fun _ => False)) : FnOk P w K mg base (L2.CX P w) (k + 1) f fd ps (SpH K C CB R) := by
  refine Fn.okX S (fun vs H Q E h => ?_) (fun cdv A outer s H vs Q E hr h => ?_)
  · obtain ⟨G, ds, y, _, dx, hR, _⟩ := h
    rw [dx.length]
    exact len ds y hR
  · obtain ⟨G, ds, y, sm, dx, hR, q⟩ := h
    exact ⟨_, hb cdv A outer s H E G ds y hr hR q, G, start_st sm dx, fun _ _ _ _ _ _ z => z.elim, fun _ _ _ _ _ _ z => z.elim⟩
end
section
variable {X : Cx} {F : Fm} {Γ : Gm} {e : Expr} {es : List Expr} {x m : Str} {j : Nat} {p p2 pos pos' : Pos} {N : Gm → Prop} {R : Dx → Prop} {W : WX} {CB : Addr} {ds : List Dx} {d : Dx}
/-- raise BadDeed('m') -/
theorem ss_raiseB (hc : X.calm = true) (tk : Takes X W) (T : BdT X.K X.mg CB) (hW : ∀ σ' G' H', Ext4 F.G F.H G' H' → W (.ref CB) none σ' H') (hg : Gl X "BadDeed" := by rfl) :
    SS X F Γ (.Raise (some (.Call (.Name "BadDeed" p) [.Constant (.str m) j p2] [] pos)) none pos') N R :=
  ps_imp (ps_raise hc tk (pmk_own PySem.F.excBase_ValueError T.x T.g T.k (raises_own T.b T.t) hg)) fun D σ H ⟨G, st, _, _⟩ => hW σ G H st.ext
/-- what a raise of BadHistory needs -/
structure BhR (P : Program) (w : World) (K : PySem.W.Frag) (mg : Str → Option Value) (base : Heap) (C : Addr) : Prop where
  ex : ∃ (fI cda cc : Addr) (fd : FuncData), BhT P K mg C fI cda cc fd ∧ FnOk P w K mg base CX0 1 fI fd ["self", "index"] (spBh C) ∧ PySem.W.findIn K (.ref C) "__init__" = some (some (.ref fI)) ∧ PySem.W.typeIn K (.ref fI) = some (.type "function") ∧ Binds K fd ["self", "index"] []
  g : mg "BadHistory" = some (.ref C)
  xf : XfC K C
/-- raise BadHistory(e) -/
theorem ss_raiseH {y : V} (hc : X.calm = true) (hr : Room 2 X.A) (tk : Takes X W) (T : BhR X.prog X.w X.K X.mg X.base CB) (he : PD X F Γ e d) (hd : d.sc = some y) (hy : IxOk y) (hW : ∀ σ' dd G' H', Ext4 F.G F.H G' H' → H' dd = some (.xd [("index", y)]) → W (.ref CB) (some dd) σ' H')
    (hg : Gl X "BadHistory" := by rfl) (hs : starEach [e] X.env = (false, eval e X.env) :: starEach [] X.env := by rfl) (hpl : (backTo pos (starEach [] X.env)).any (·.1) = false := by rfl) :
    SS X F Γ (.Raise (some (.Call (.Name "BadHistory" p) [e] [] pos)) none pos') N R := by
  obtain ⟨fI, cda, cc, fd, B, ok, h1, h2, h3⟩ := T.ex
  refine ps_imp (ps_raise hc tk (pmk_oex B.oex h1 h2 ok hr h3 .nil pass0 hg T.g (ad_cons he ad_nil hs) (by decide) hs hpl)) fun D σ H ⟨G, st, _, _⟩ => ?_
  refine ⟨G, st, fun vs G1 H1 e1 dvs => ?_⟩
  cases dvs with
  | @cons v _ _ _ h h' =>
    cases h'
    obtain rfl := h.sc hd
    refine ⟨by show 1 ≤ 1000; decide, fun a ha => ⟨a, v, rfl, hy, upd_same, fun dx n ne => ⟨rfl, dx, [("index", v)], upd_same, ?_, ?_, ?_⟩⟩⟩
    · rw [upd_ne ne, upd_same]
    · rw [upd_ne ne] at n
      exact n
    · rw [upd_ne ne] at n
      have e2 : upd (del (upd (upd (upd H1 a (exo a CB none)) dx (exd dx [("index", v)])) a (exo a CB (some dx))) a) dx (.xd [("index", v)]) = upd H1 dx (.xd [("index", v)]) := by
        funext b
        by_cases hb : b = dx
        · rw [hb, upd_same, upd_same]
        · rw [upd_ne hb, upd_ne hb]
          by_cases ha' : b = a
          · rw [ha', del_same, ha]
          · rw [del_ne ha', upd_ne ha', upd_ne hb, upd_ne ha']
      rw [e2]
      exact hW σ dx G1 _ ((st.ext.trans e1).trans (.own e1.v n)) upd_same
/-- an expression that never gives a value -/
def tE (K : PySem.W.Frag) (F : Fm) (Γ : Gm) : TE := fun σ H _ => ∃ G, ST K F Γ G H σ
theorem sx_ret (he : PE X e (tE X.K F Γ)) : SS X F Γ (.Return (some e) pos) N R := ps_imp (ps_ret he) fun D σ H ⟨G, st, _, _⟩ => ⟨G, st⟩
theorem sx_expr (he : PE X e (tE X.K F Γ)) (hs : swapsWith e none pos.line X.env = pure false := by rfl) : SS X F Γ (.Expr e pos) N R := ps_imp (ps_expr he hs) fun D σ H ⟨G, st, _, _⟩ => ⟨G, st⟩
/-- a call that raises BadDeed -/
theorem px_callB {k j : Nat} {ps : List Str} {RB : List Dx → Prop} {E : XK} (D : Df X.prog X.w X.K X.mg X.base (L2.CX X.prog X.w) j x ps (SpB X.K F.C CB RB)) (hr : Room k X.A) (hx : Passes (L2.CX X.prog X.w) X E) (ha : AD X F Γ (e :: es) ds) (hR : RB ds)
    (hE : ∀ G' H', Ext4 F.G F.H G' H' → E (.ref CB) none H') (hj : j ≤ k := by decide) (hg : Gl X x := by rfl)
    (hdb : (x == ("__debug__" : Str)) = false := by decide) (he : starEach (e :: es) X.env = (false, eval e X.env) :: starEach es X.env := by rfl) (hpl : (backTo pos (starEach es X.env)).any (·.1) = false := by rfl) :
    PE X (.Call (.Name x p) (e :: es) [] pos) (tE X.K F Γ) := by
  obtain ⟨f, fd, ok, hm, hk, hb⟩ := D
  exact pe_imp (pe_call ok (hr.mono hj) hg hm hk hb .nil hx ha hdb he hpl) fun σ H Q ⟨G, st⟩ => ⟨G, st, fun vs G1 H1 e1 dvs => by
    show SpB X.K F.C CB RB (vs ++ []) H1 Q E
    rw [List.append_nil]
    exact ⟨G1, ds, e1.v, dvs, hR, fun G2 H2 e2 => hE G2 H2 ((st.ext.trans e1).trans e2)⟩⟩
/-- a call that raises BadHistory -/
theorem px_callH {k j : Nat} {ps : List Str} {RB : List Dx → V → Prop} {E : XK} {y : V} (D : Df X.prog X.w X.K X.mg X.base (L2.CX X.prog X.w) j x ps (SpH X.K F.C CB RB)) (hr : Room k X.A) (hx : Passes (L2.CX X.prog X.w) X E) (ha : AD X F Γ (e :: es) ds) (hR : RB ds y)
    (hE : ∀ dd G' H', Ext4 F.G F.H G' H' → H' dd = some (.xd [("index", y)]) → E (.ref CB) (some dd) H') (hj : j ≤ k := by decide) (hg : Gl X x := by rfl)
    (hdb : (x == ("__debug__" : Str)) = false := by decide) (he : starEach (e :: es) X.env = (false, eval e X.env) :: starEach es X.env := by rfl) (hpl : (backTo pos (starEach es X.env)).any (·.1) = false := by rfl) :
    PE X (.Call (.Name x p) (e :: es) [] pos) (tE X.K F Γ) := by
  obtain ⟨f, fd, ok, hm, hk, hb⟩ := D
  exact pe_imp (pe_call ok (hr.mono hj) hg hm hk hb .nil hx ha hdb he hpl) fun σ H Q ⟨G, st⟩ => ⟨G, st, fun vs G1 H1 e1 dvs => by
    show SpH X.K F.C CB RB (vs ++ []) H1 Q E
    rw [List.append_nil]
    exact ⟨G1, ds, y, e1.v, dvs, hR, fun dd G2 H2 e2 hd => hE dd G2 H2 ((st.ext.trans e1).trans e2) hd⟩⟩
/-- .. where what takes it looks at the slots -/
theorem passes_len {E : XK} (tk : Takes X W) (hW : ∀ cls d σ H, σ.length = X.N.length → E cls d H → W cls d σ H) : Passes (L2.CX X.prog X.w) X E :=
  fun _ σ _ _ e s' I c => tk e s' (XE.of_call I (fun cls d H' h => hW cls d σ H' I.len h) c)
end
section
variable {P : Program} {w : World} {K : PySem.W.Frag} {mg : Str → Option Value} {base : Heap} {C : Addr} {f : Addr} {fd : FuncData} {CB : Addr}

/-! ### after -/
def R_after (ds : List Dx) (d : Dx) : Prop := ∃ (r : Wr) (s : SR) (k : Str), ds = [.wh r, dS s, .str k] ∧ r.Ok ∧ s.Ok r ∧ k ∈ deedsM r s ∧ d = dS (doneM r s k)
theorem ok_after (Fn : Fun K "after" "after" s_after f fd) (T : Tx K mg C) (D_check_state : Df P w K mg base CX0 6 "check_state" ["wheel", "state"] (SpF K C R_check_state)) (D_is_deed : Df P w K mg base CX0 3 "is_deed" ["wheel", "state", "value"] (SpF K C R_is_deed))
    (D_done : Df P w K mg base CX0 4 "done" ["wheel", "state", "deed"] (SpF K C R_done)) : FnOk P w K mg base CX0 7 f fd ["wheel", "state", "deed"] (SpF K C R_after) := by
  refine Fun.okD Fn c_after ?_ ?_
  · rintro ds d ⟨r, o, k, rfl, _, _, _, rfl⟩; rfl
  · rintro cdv A outer s H E G0 H0 ds d hr ⟨r, o, k, rfl, okr, ok, hk, rfl⟩
    refine bb_cons (ss_expr (pd_call D_check_state hr pass0 (ad_cons (pd_v 0) (ad_cons (pd_v 1) ad_nil)) ⟨r, o, rfl, ok, rfl⟩) ?_)
    refine bb_cons (ss_if (td_not (td_val (pd_call D_is_deed hr pass0 (ad_cons (pd_v 0) (ad_cons (pd_v 1) (ad_cons (pd_v 2) ad_nil))) ⟨r, o, .str k, rfl, .inl ⟨k, rfl⟩, rfl⟩))) (fun h => ?_) (fun h => bb_nil ?_))
    · have : isD r o (.str k) = true := List.contains_iff_mem.mpr hk
      rw [this] at h
      cases h
    · exact bb_one (ss_ret (pd_call D_done hr pass0 (ad_cons (pd_v 0) (ad_cons (pd_v 1) (ad_cons (pd_v 2) ad_nil))) ⟨r, o, k, rfl, okr, hk, rfl⟩) rfl)
def B_after (ds : List Dx) : Prop := ∃ (r : Wr) (s : SR) (x : Dx), ds = [.wh r, dS s, x] ∧ s.Ok r ∧ Fine x ∧ isD r s x = false
theorem bad_after (Fn : Fun K "after" "after" s_after f fd) (T : Tx K mg C) (TB : BdT K mg CB) (D_check_state : Df P w K mg base CX0 6 "check_state" ["wheel", "state"] (SpF K C R_check_state)) (D_is_deed : Df P w K mg base CX0 3 "is_deed" ["wheel", "state", "value"] (SpF K C R_is_deed)) :
    FnOk P w K mg base (L2.CX P w) 7 f fd ["wheel", "state", "deed"] (SpB K C CB B_after) := by
  refine Fun.okB Fn c_after ?_ ?_
  · rintro ds ⟨r, o, k, rfl, _⟩; rfl
  · rintro cdv A outer s H E G0 ds hr ⟨r, o, x, rfl, ok, hx, hn⟩ hE
    refine bb_cons (ss_expr (pd_call D_check_state hr pass0 (ad_cons (pd_v 0) (ad_cons (pd_v 1) ad_nil)) ⟨r, o, rfl, ok, rfl⟩) ?_)
    refine bb_cons (ss_if (td_not (td_val (pd_call D_is_deed hr pass0 (ad_cons (pd_v 0) (ad_cons (pd_v 1) (ad_cons (pd_v 2) ad_nil))) ⟨r, o, x, rfl, hx, rfl⟩))) (fun h => ?_) (fun h => ?_))
    · exact bb_one (ss_raiseB (W := fun cls d _ H => E cls d H) rfl (takes_of rfl rfl rfl rfl) TB fun _ G' H' e => hE G' H' e)
    · rw [hn] at h
      cases h

/-! ### check_history, told -/
def R_told (ds : List Dx) (d : Dx) : Prop := ∃ (r : Wr) (h : Dx) (xs : List Dx), ds = [.wh r, h] ∧ Sq h xs ∧ r.Ok ∧ (∀ x, x ∈ xs → Fine x) ∧ xs.length ≤ 100 ∧ (walkM r s0 xs).length = xs.length ∧ d = .lst ((walkM r s0 xs).map dS)
theorem sq_ty {h : Dx} {xs : List Dx} (q : Sq h xs) : ∃ A k1 k2, h.ty = some A ∧ kitB A "list" = some k1 ∧ kitB A "tuple" = some k2 ∧ (k1 || k2) = true := by
  rcases q with rfl | rfl
  · exact ⟨"tuple", false, true, rfl, by decide +kernel, by decide +kernel, rfl⟩
  · exact ⟨"list", true, false, rfl, by decide +kernel, by decide +kernel, rfl⟩
theorem sq_sz {h : Dx} {xs : List Dx} (q : Sq h xs) : h.sz = some xs.length := by
  rcases q with rfl | rfl <;> rfl
theorem ok_check_history (Fn : Fun K "check_history" "check_history" s_check_history f fd) (T : Tx K mg C) (D_check_wheel : Df P w K mg base CX0 1 "check_wheel" ["value"] (SpF K C R_check_wheel)) (D_walked : Df P w K mg base CX0 5 "walked" ["wheel", "history"] (SpF K C R_walked)) :
    FnOk P w K mg base CX0 6 f fd ["wheel", "history"] (SpF K C R_told) := by
  refine Fun.okD Fn c_check_history ?_ ?_
  · rintro ds d ⟨r, o, k, rfl, _⟩; rfl
  · rintro cdv A outer s H E G0 H0 ds d hr ⟨r, h, xs, rfl, hq, okr, hf, hl, hw, rfl⟩
    obtain ⟨A', k1, k2, a1, a2, a3, a4⟩ := sq_ty hq
    refine bb_cons (ss_expr (pd_call D_check_wheel hr pass0 (ad_cons (pd_v 0) ad_nil) ⟨r, rfl, rfl⟩) ?_)
    refine bb_cons (ss_if (td_not (td_val (pd_isi2 (pd_v 1) a1 a2 a3 T.f_isinstance T.f_list T.f_tuple))) (fun h => ?_) (fun h => bb_nil ?_))
    · rw [a4] at h
      cases h
    refine bb_cons (ss_set 2 c_check_history.nd (pd_call D_walked hr pass0 (ad_cons (pd_v 0) (ad_cons (pd_v 1) ad_nil)) ⟨r, _, xs, rfl, hq, okr, hf, by omega, rfl⟩) ?_)
    refine bb_cons (ss_if (td_lt (pd_len T.f_len (pd_v 2) rfl) (pd_len T.f_len (pd_v 1) (sq_sz hq))) (fun h => ?_) (fun h => bb_nil ?_))
    · rw [List.length_map, hw] at h
      exact absurd (of_decide_eq_true h) (by omega)
    · exact bb_one (ss_ret (pd_v 2) rfl)
theorem ok_told (Fn : Fun K "told" "told" s_told f fd) (T : Tx K mg C) (D_check_history : Df P w K mg base CX0 6 "check_history" ["wheel", "history"] (SpF K C R_told)) : FnOk P w K mg base CX0 7 f fd ["wheel", "history"] (SpF K C R_told) := by
  refine Fun.okD Fn c_told ?_ ?_
  · rintro ds d ⟨r, o, k, rfl, _⟩; rfl
  · rintro cdv A outer s H E G0 H0 ds d hr ⟨r, h, xs, rfl, hq, okr, hf, hl, hw, rfl⟩
    exact bb_one (ss_ret (pd_call D_check_history hr pass0 (ad_cons (pd_v 0) (ad_cons (pd_v 1) ad_nil)) ⟨r, h, xs, rfl, hq, okr, hf, hl, hw, rfl⟩) rfl)
def H_told (ds : List Dx) (y : V) : Prop := ∃ (r : Wr) (h : Dx), ds = [.wh r, h] ∧ r.Ok ∧ ((∃ k, h = .str k ∧ y = .non) ∨ ∃ xs, Sq h xs ∧ (∀ x, x ∈ xs → Fine x) ∧ xs.length ≤ 100 ∧ (walkM r s0 xs).length < xs.length ∧ y = .int ((walkM r s0 xs).length : Nat))
theorem bad_check_history (Fn : Fun K "check_history" "check_history" s_check_history f fd) (T : Tx K mg C) (TB : BhR P w K mg base CB) (D_check_wheel : Df P w K mg base CX0 1 "check_wheel" ["value"] (SpF K C R_check_wheel)) (D_walked : Df P w K mg base CX0 5 "walked" ["wheel", "history"] (SpF K C R_walked)) :
    FnOk P w K mg base (L2.CX P w) 6 f fd ["wheel", "history"] (SpH K C CB H_told) := by
  refine Fun.okH Fn c_check_history ?_ ?_
  · rintro ds y ⟨r, o, rfl, _⟩; rfl
  · rintro cdv A outer s H E G0 ds y hr ⟨r, h, rfl, okr, hh⟩ hE
    have hr2 : Room 2 (BR P w K mg base n_check_history "check_history" s_check_history f cdv A outer s H E).A := hr.mono (by decide)
    refine bb_cons (ss_expr (pd_call D_check_wheel hr pass0 (ad_cons (pd_v 0) ad_nil) ⟨r, rfl, rfl⟩) ?_)
    rcases hh with ⟨k, rfl, rfl⟩ | ⟨xs, hq, hf, hl, hw, rfl⟩
    · refine bb_cons (ss_if (td_not (td_val (pd_isi2 (A := "str") (T1 := "list") (T2 := "tuple") (k1 := false) (k2 := false) (pd_v 1) rfl (by decide +kernel) (by decide +kernel) T.f_isinstance T.f_list T.f_tuple))) (fun h => ?_) (fun h => by cases h))
      exact bb_one (ss_raiseH (W := fun cls d _ H => E cls d H) rfl hr2 (takes_of rfl rfl rfl rfl) TB pd_non rfl (.inl rfl) fun _ dd G' H' e hd => hE dd G' H' e hd)
    · obtain ⟨A', k1, k2, a1, a2, a3, a4⟩ := sq_ty hq
      refine bb_cons (ss_if (td_not (td_val (pd_isi2 (pd_v 1) a1 a2 a3 T.f_isinstance T.f_list T.f_tuple))) (fun h => ?_) (fun h => bb_nil ?_))
      · rw [a4] at h
        cases h
      refine bb_cons (ss_set 2 c_check_history.nd (pd_call D_walked hr pass0 (ad_cons (pd_v 0) (ad_cons (pd_v 1) ad_nil)) ⟨r, _, xs, rfl, hq, okr, hf, by omega, rfl⟩) ?_)
      refine bb_cons (ss_if (td_lt (pd_len T.f_len (pd_v 2) rfl) (pd_len T.f_len (pd_v 1) (sq_sz hq))) (fun h => ?_) (fun h => ?_))
      · refine bb_one (ss_raiseH (W := fun cls d _ H => E cls d H) rfl hr2 (takes_of rfl rfl rfl rfl) TB (pd_len T.f_len (pd_v 2) rfl) rfl (.inr ⟨(walkM r s0 xs).length, by omega, ?_⟩) fun _ dd G' H' e hd => hE dd G' H' e ?_)
        · rw [List.length_map]
        · rw [List.length_map] at hd
          exact hd
      · rw [List.length_map] at h
        exact absurd (of_decide_eq_false h) (by omega)
theorem bad_told (Fn : Fun K "told" "told" s_told f fd) (T : Tx K mg C) (D_check_history : Df P w K mg base (L2.CX P w) 6 "check_history" ["wheel", "history"] (SpH K C CB H_told)) : FnOk P w K mg base (L2.CX P w) 7 f fd ["wheel", "history"] (SpH K C CB H_told) := by
  refine Fun.okH Fn c_told ?_ ?_
  · rintro ds y ⟨r, o, rfl, _⟩; rfl
  · rintro cdv A outer s H E G0 ds y hr ⟨r, h, rfl, hh⟩ hE
    exact bb_one (sx_ret (px_callH (E := E) D_check_history hr (passes_len (takes_of rfl rfl rfl rfl) fun _ _ _ _ _ h => h) (ad_cons (pd_v 0) (ad_cons (pd_v 1) ad_nil)) ⟨r, h, rfl, hh⟩ fun dd G' H' e hd => hE dd G' H' e hd))
end
end Lap
set_option maxHeartbeats 4000000
/-! A wheel is made. -/
namespace Lap
open PySem PySem.Spec L2
open PyProof.Rows hiding St
section
variable {P : Program} {w : World} {K : PySem.W.Frag} {mg : Str → Option Value} {base : Heap} {C : Addr} {f : Addr} {fd : FuncData}
def R_all_for (ds : List Dx) (d : Dx) : Prop := ∃ (n : Int), ds = [.int n, .str "hold"] ∧ d = .tup [.str "no", .str "yes"]
theorem ok_all_for (Fn : Fun K "all_for" "all_for" s_all_for f fd) (T : Tx K mg C) : FnOk P w K mg base CX0 1 f fd ["size", "name"] (SpF K C R_all_for) := by
  refine Fun.okD Fn c_all_for ?_ ?_
  · rintro ds d ⟨n, rfl, rfl⟩; rfl
  · rintro cdv A outer s H E G0 H0 ds d hr ⟨n, rfl, rfl⟩
    refine bb_cons (ss_if (td_eq (pd_v 1) pd_str) (fun h => ?_) (fun h => ?_))
    · exact bb_one (ss_ret (pd_tup (ad_cons pd_str (ad_cons pd_str ad_nil))) rfl)
    · exact absurd h (by decide +kernel)
def RuleOk (n : Int) (k : Str) (x : Dx) : Prop := (k = "freeze" ∧ ∃ i, x = .int i ∧ 0 ≤ i ∧ i ≤ n / 2) ∨ ((k = "stop" ∨ k = "cut") ∧ ∃ o, x = optD o ∧ ∀ i, o = some i → 1 ≤ i ∧ i ≤ n) ∨ (k = "hold" ∧ ∃ b, x = .str (holdS b))
def R_can_be (ds : List Dx) (d : Dx) : Prop := ∃ (n : Int) (k : Str) (x : Dx), ds = [.int n, .str k, x] ∧ RuleOk n k x ∧ d = .bl true
theorem ok_can_be (Fn : Fun K "can_be" "can_be" s_can_be f fd) (T : Tx K mg C) (D_all_for : Df P w K mg base CX0 1 "all_for" ["size", "name"] (SpF K C R_all_for)) (D_is_whole : Df P w K mg base CX0 1 "is_whole" ["value", "low", "high"] (SpF K C R_is_whole)) :
    FnOk P w K mg base CX0 2 f fd ["size", "name", "value"] (SpF K C R_can_be) := by
  refine Fun.okD Fn c_can_be ?_ ?_
  · rintro ds d ⟨n, k, x, rfl, _⟩; rfl
  · rintro cdv A outer s H E G0 H0 ds d hr ⟨n, k, x, rfl, hx, rfl⟩
    rcases hx with ⟨rfl, i, rfl, i0, i1⟩ | ⟨hk, o, rfl, ho⟩ | ⟨rfl, b, rfl⟩
    · refine bb_cons (ss_if (td_eq (pd_v 1) pd_str) (fun h => absurd h (by decide +kernel)) (fun h => bb_nil ?_))
      refine bb_cons (ss_if (td_eq (pd_v 1) pd_str) (fun h => ?_) (fun h => absurd h (by decide +kernel)))
      refine bb_one (ss_ret (pd_call D_is_whole hr pass0 (ad_cons (pd_v 2) (ad_cons pd_int (ad_cons (pd_fdiv (pd_v 0) pd_int ⟨by decide, by decide⟩) ad_nil))) ⟨i, 0, n / 2, rfl, rfl⟩) ?_)
      rw [decide_eq_true i0, decide_eq_true i1]
      rfl
    · have n1 : decide (V.str k = V.str "hold") = false := by rcases hk with rfl | rfl <;> decide +kernel
      have n2 : decide (V.str k = V.str "freeze") = false := by rcases hk with rfl | rfl <;> decide +kernel
      refine bb_cons (ss_if (td_eq (pd_v 1) pd_str) (fun h => by rw [n1] at h; cases h) (fun h => bb_nil ?_))
      refine bb_cons (ss_if (td_eq (pd_v 1) pd_str) (fun h => by rw [n2] at h; cases h) (fun h => bb_nil ?_))
      cases o with
      | none => exact bb_one (ss_ret (pd_or (y := true) (pd_isN (pd_v 2)) (fun h => by cases h)) rfl)
      | some i =>
        obtain ⟨i1, i2⟩ := ho i rfl
        refine bb_one (ss_ret (pd_or (pd_isN (pd_v 2)) (fun h => pd_one (pd_call D_is_whole hr pass0 (ad_cons (pd_v 2) (ad_cons pd_int (ad_cons (pd_v 0) ad_nil))) ⟨i, 1, n, rfl, rfl⟩))) ?_)
        rw [decide_eq_true i1, decide_eq_true i2]
        rfl
    · refine bb_cons (ss_if (td_eq (pd_v 1) pd_str) (fun h => ?_) (fun h => absurd h (by decide +kernel)))
      refine bb_one (ss_ret (pd_and (pd_isi (T := "str") (k := true) (pd_v 2) rfl (by decide +kernel) T.f_isinstance T.f_str) (fun h => (pd_one (pd_inS (ns := ["no", "yes"]) (pd_v 2) (pd_call D_all_for hr pass0 (ad_cons (pd_v 0) (ad_cons (pd_v 1) ad_nil)) ⟨n, rfl, rfl⟩) (.inl rfl))))) ?_)
      cases b <;> exact congrArg Dx.bl (by decide +kernel)

/-! __init__ -/
theorem putF_len (f : Str) (v : V) : ∀ fs : List (Str × V), (putF f v fs).length ≤ fs.length + 1
  | [] => Nat.le_refl _
  | (g, x) :: r => by
    show (if g = f then (g, v) :: r else (g, x) :: putF f v r).length ≤ _
    by_cases h : g = f
    · rw [if_pos h]
      exact Nat.le_succ _
    · rw [if_neg h]
      exact Nat.succ_le_succ (putF_len f v r)
theorem putF_lt {f : Str} {v : V} {fs : List (Str × V)} {n : Nat} (h : fs.length < n) : (putF f v fs).length < n + 1 := by
  have := putF_len f v fs
  omega
def SpW (C : Addr) : Sp := fun vs H Q _ => ∃ (a dx : Addr) (r : Wr), vs = [.ref a, .int r.size, .int r.freeze, optV r.stop, .str (holdS r.hold), optV r.cut] ∧ r.Ok ∧ H a = some (.ins C dx []) ∧
  ∀ H', Same H H' → Q .non (upd H' a (.ins C dx (whF r)))
abbrev BW (P : Program) (w : World) (K : PySem.W.Frag) (mg : Str → Option Value) (base : Heap) (f : Addr) (cdv : Value) (A : Around) (outer : List Env) (s : Shared) (H : Hp) (E : XK) : Cx := (cxOf CX0 P w K mg base n_WheelInit "Wheel.__init__" (defScope s_WheelInit) f cdv A outer s H E).nox
theorem ok_winit {kws : List (Str × V)} (Fn : FunD K "__init__" "Wheel.__init__" (defArgs s_WheelInit) (defBody s_WheelInit) (defScope s_WheelInit) [] kws f fd) (T : Tx K mg C) (D_is_whole : Df P w K mg base CX0 1 "is_whole" ["value", "low", "high"] (SpF K C R_is_whole)) (D_can_be : Df P w K mg base CX0 2 "can_be" ["size", "name", "value"] (SpF K C R_can_be)) :
    FnOk P w K mg base CX0 3 f fd ["self", "size", "freeze", "stop", "hold", "cut"] (SpW C) := by
  refine Fn.ok c_WheelInit (fun vs H Q E h => ?_) (fun cdv A outer s H vs Q E hr h => ?_)
  · obtain ⟨a, dx, r, rfl, _⟩ := h
    rfl
  · obtain ⟨a, dx, r, rfl, ok, ha, hq⟩ := h
    have hr' : Room 2 (BW P w K mg base f cdv A outer s H E).A := hr
    have s0 : Same (fun _ => none : Hp) H := fun _ _ z => by cases z
    have D0 : DXs K C (fun _ => none : Hp) [.ref a, .int r.size, .int r.freeze, optV r.stop, .str (holdS r.hold), optV r.cut] [.raw (.ref a), .int r.size, .int r.freeze, optD r.stop, .str (holdS r.hold), optD r.cut] :=
      .cons (.raw _) (.cons (.int _) (.cons (.int _) (.cons (.mk_opt _) (.cons (.str _) (.cons (.mk_opt _) .nil)))))
    have b1 : SS (BW P w K mg base f cdv A outer s H E) ⟨C, fun _ => none, H⟩ (Γ0 8 [.raw (.ref a), .int r.size, .int r.freeze, optD r.stop, .str (holdS r.hold), optD r.cut]) ((defBody s_WheelInit).getD 0 (.Pass ⟨0, 0, 0, 0⟩))
        (fun Γ => Γ = Γ0 8 [.raw (.ref a), .int r.size, .int r.freeze, optD r.stop, .str (holdS r.hold), optD r.cut]) (fun _ => False) := by
      have e1 : (decide ((1 : Int) ≤ r.size) && decide (r.size ≤ 9)) = true := by
        rcases ok.1 with h | h <;> rw [h] <;> rfl
      have e2 : List.contains ([4, 6, 8] : List Int) r.size = true := by
        rcases ok.1 with h | h <;> rw [h] <;> rfl
      refine ss_if (td_w (tw_or (td_not (td_val (pd_call D_is_whole hr' pass0 (ad_cons (pd_v 1) (ad_cons pd_int (ad_cons pd_int ad_nil))) ⟨r.size, 1, 9, rfl, rfl⟩))) (fun h => (tw_or1 (td_notInI (ns := [4, 6, 8]) (pd_v 1) (pd_gk T.k_SIZES) (.inl rfl)))))) (fun h => ?_) (fun h => bb_nil rfl)
      rw [e1, e2] at h
      cases h
    have b2 : SS (BW P w K mg base f cdv A outer s H E) ⟨C, fun _ => none, H⟩ (Γ0 8 [.raw (.ref a), .int r.size, .int r.freeze, optD r.stop, .str (holdS r.hold), optD r.cut]) ((defBody s_WheelInit).getD 1 (.Pass ⟨0, 0, 0, 0⟩))
        (fun Γ => ∃ o6 o7, Γ = [some (.d (.raw (.ref a))), some (.d (.int r.size)), some (.d (.int r.freeze)), some (.d (optD r.stop)), some (.d (.str (holdS r.hold))), some (.d (optD r.cut)), o6, o7]) (fun _ => False) := by
      refine ss_for (fun k Γ => ∃ o6 o7, Γ = [some (.d (.raw (.ref a))), some (.d (.int r.size)), some (.d (.int r.freeze)), some (.d (optD r.stop)), some (.d (.str (holdS r.hold))), some (.d (optD r.cut)), o6, o7]) PassesOwn.never rfl
        (pl_zipT (ds1 := [.str "freeze", .str "stop", .str "hold", .str "cut"]) (ds2 := [.int r.freeze, optD r.stop, .str (holdS r.hold), optD r.cut]) T.f_zip (pd_gk T.k_RULES) (pd_tup (ad_cons (pd_v 2) (ad_cons (pd_v 3) (ad_cons (pd_v 4) (ad_cons (pd_v 5) ad_nil))))) rfl) ⟨none, none, rfl⟩ ?_ (fun _ z => z)
      rintro k d Γ1 hd ⟨o6, o7, rfl⟩
      have hk : ∃ (x : Str) (y : Dx), d = .tup [.str x, y] ∧ RuleOk r.size x y := by
        have hm := List.mem_of_getElem? hd
        have hm' : d ∈ [Dx.tup [.str "freeze", .int r.freeze], .tup [.str "stop", optD r.stop], .tup [.str "hold", .str (holdS r.hold)], .tup [.str "cut", optD r.cut]] := hm
        rcases List.mem_cons.mp hm' with rfl | hm'
        · exact ⟨_, _, rfl, .inl ⟨rfl, _, rfl, ok.2.1.1, ok.2.1.2⟩⟩
        rcases List.mem_cons.mp hm' with rfl | hm'
        · exact ⟨_, _, rfl, .inr (.inl ⟨.inl rfl, _, rfl, ok.2.2.1⟩)⟩
        rcases List.mem_cons.mp hm' with rfl | hm'
        · exact ⟨_, _, rfl, .inr (.inr ⟨rfl, _, rfl⟩)⟩
        rcases List.mem_cons.mp hm' with rfl | hm'
        · exact ⟨_, _, rfl, .inr (.inl ⟨.inr rfl, _, rfl, ok.2.2.2⟩)⟩
        cases hm'
      obtain ⟨x, y, rfl, ho⟩ := hk
      refine ⟨_, [6, 7], gd_tup rfl (gds_cons (gd_name 6 c_WheelInit.nd) (gds_cons (gd_name 7 c_WheelInit.nd) gds_nil)), ?_⟩
      exact bb_one (ss_if (td_not (td_val (pd_call D_can_be hr' pass0 (ad_cons (pd_v 1) (ad_cons (pd_v 6) (ad_cons (pd_v 7) ad_nil))) ⟨r.size, x, y, rfl, ho, rfl⟩))) (fun h => by cases h) (fun h => bb_nil ⟨_, _, rfl⟩))
    have b : PSs (BW P w K mg base f cdv A outer s H E) (defBody s_WheelInit) _ := pss_cons b1 (pss_cons b2 (pss_cons (ps_fld (pv 0) (pv 1) rfl) (pss_cons (ps_fld (pv 0) (pv 2) rfl) (pss_cons (ps_fld (pv 0) (pv 3) rfl) (pss_cons (ps_fld (pv 0) (pv 4) rfl) (pss_cons (ps_fld (pv 0) (pv 5) rfl) pss_nil))))))
    refine ⟨_, PSs.nox b, ?_⟩
    refine ⟨fun _ => none, start_st (N := n_WheelInit) s0 D0, fun Γ' σ' G' H' st _ e => ?_, fun _ _ _ _ _ _ z => z.elim⟩
    subst e
    refine ⟨G', st, fun Γ2 σ2 G2 H2 st2 _ e => ?_, fun _ _ _ _ _ _ z => z.elim⟩
    obtain ⟨o6, o7, rfl⟩ := e
    have ha2 := st2.ext.h _ _ ha
    obtain ⟨v0, l0, d0⟩ := st2.sl 0 _ rfl
    obtain ⟨v1, l1, d1⟩ := st2.sl 1 _ rfl
    obtain ⟨v2, l2, d2⟩ := st2.sl 2 _ rfl
    obtain ⟨v3, l3, d3⟩ := st2.sl 3 _ rfl
    obtain ⟨v4, l4, d4⟩ := st2.sl 4 _ rfl
    obtain ⟨v5, l5, d5⟩ := st2.sl 5 _ rfl
    cases d0
    cases d1
    cases d2
    obtain rfl := DX.optI d3
    cases d4
    obtain rfl := DX.optI d5
    refine ⟨_, l1, _, l0, a, C, dx, _, rfl, ha2, T.wt.cl, T.wt.a1, by decide, ?_⟩
    refine ⟨_, l2, _, l0, a, C, dx, _, rfl, upd_same, T.wt.cl, T.wt.a2, putF_lt (n := 999) (by decide), ?_⟩
    refine ⟨_, l3, _, l0, a, C, dx, _, rfl, upd_same, T.wt.cl, T.wt.a3, putF_lt (n := 999) (putF_lt (n := 998) (by decide)), ?_⟩
    refine ⟨_, l4, _, l0, a, C, dx, _, rfl, upd_same, T.wt.cl, T.wt.a4, putF_lt (n := 999) (putF_lt (n := 998) (putF_lt (n := 997) (by decide))), ?_⟩
    refine ⟨_, l5, _, l0, a, C, dx, _, rfl, upd_same, T.wt.cl, T.wt.a5, putF_lt (n := 999) (putF_lt (n := 998) (putF_lt (n := 997) (putF_lt (n := 996) (by decide)))), ?_⟩
    have e : putF "cut" (optV r.cut) (putF "hold" (.str (holdS r.hold)) (putF "stop" (optV r.stop) (putF "freeze" (.int r.freeze) (putF "size" (.int r.size) [])))) = whF r := by kernel_rfl
    have e2 : ∀ (o1 o2 o3 o4 o5 : HO), upd (upd (upd (upd (upd H2 a o1) a o2) a o3) a o4) a o5 = upd H2 a o5 := fun o1 o2 o3 o4 o5 => by
      funext b
      by_cases hb : b = a
      · rw [hb, upd_same, upd_same]
      · rw [upd_ne hb, upd_ne hb, upd_ne hb, upd_ne hb, upd_ne hb, upd_ne hb]
    show Q .non _
    rw [e2, e]
    exact hq H2 st2.ext.h

/-! made -/
/-- what the written part says of Wheel's making -/
structure MkT (P : Program) (w : World) (K : PySem.W.Frag) (mg : Str → Option Value) (base : Heap) (C : Addr) : Prop where
  ex : ∃ (fI : Addr) (fd : FuncData) (g : List Value → List Value → List Value), Mk K C fI ∧ FnOk P w K mg base CX0 3 fI fd ["self", "size", "freeze", "stop", "hold", "cut"] (SpW C) ∧
    KBn K fd ["self", "size", "freeze", "stop", "hold", "cut"] 2 ["freeze", "stop", "hold", "cut"] g (fun vs zs => vs ++ zs)
theorem kbn_w {kws : List (Str × V)} (Fn : FunD K "__init__" "Wheel.__init__" (defArgs s_WheelInit) (defBody s_WheelInit) (defScope s_WheelInit) [] kws f fd) (hk : kws ≠ []) :
    ∃ g : List Value → List Value → List Value, KBn K fd ["self", "size", "freeze", "stop", "hold", "cut"] 2 ["freeze", "stop", "hold", "cut"] g (fun vs zs => vs ++ zs) := by
  obtain ⟨mv, h⟩ := Fn.kbinds0 (ps := ["self", "size", "freeze", "stop", "hold", "cut"]) 2 ["freeze", "stop", "hold", "cut"] [] (fun us mv ws => us ++ ws) hk (fun q hq => by cases hq) (fun r1 _ r3 => r1.append r3) (fun D doc pm an cdv ct us mv ws l1 l2 l3 => by
    obtain ⟨u1, us, rfl⟩ : ∃ a r, us = a :: r := by cases us with | nil => cases l1 | cons a r => exact ⟨a, r, rfl⟩
    obtain ⟨u2, us, rfl⟩ : ∃ a r, us = a :: r := by cases us with | nil => cases l1 | cons a r => exact ⟨a, r, rfl⟩
    obtain rfl : us = [] := by cases us with | nil => rfl | cons a r => cases l1
    obtain ⟨w1, ws, rfl⟩ : ∃ a r, ws = a :: r := by cases ws with | nil => cases l3 | cons a r => exact ⟨a, r, rfl⟩
    obtain ⟨w2, ws, rfl⟩ : ∃ a r, ws = a :: r := by cases ws with | nil => cases l3 | cons a r => exact ⟨a, r, rfl⟩
    obtain ⟨w3, ws, rfl⟩ : ∃ a r, ws = a :: r := by cases ws with | nil => cases l3 | cons a r => exact ⟨a, r, rfl⟩
    obtain ⟨w4, ws, rfl⟩ : ∃ a r, ws = a :: r := by cases ws with | nil => cases l3 | cons a r => exact ⟨a, r, rfl⟩
    obtain rfl : ws = [] := by cases ws with | nil => rfl | cons a r => cases l3
    show bindArgs _ _ = pure _
    rfl)
  exact ⟨_, h⟩
section
variable {X : Cx} {F : Fm} {Γ : Gm} {e : Expr} {es : List Expr} {kws : List Keyword} {nm : Option Str} {p pos kpos : Pos} {d : Dx} {ds : List Dx} {r : Wr}
theorem kd_nil : PK X [] (tAr X.K F Γ []) := ⟨fun pos pins s σ H Q I ⟨G, st, q⟩ => pk_nil.run pos pins s σ H Q I (q [] G H (.refl st.same) .nil)⟩
theorem kd_cons (ha : PD X F Γ e d) (hr : PK X kws (tAr X.K F Γ ds)) : PK X (⟨nm, e, kpos⟩ :: kws) (tAr X.K F Γ (d :: ds)) := ⟨fun pos pins s σ H Q I ⟨G, st, q⟩ => (pk_cons ha hr).run pos pins s σ H Q I
  ⟨G, st, fun v G1 H1 e1 dv => ⟨G1, st.step e1, fun vs G2 H2 e2 dvs => q _ G2 H2 (e1.trans e2) (.cons (dv.mono e2.g) dvs)⟩⟩⟩
/-- Wheel(n, freeze = .., stop = .., hold = .., cut = ..) -/
theorem pd_makeW (M : MkT X.prog X.w X.K X.mg X.base F.C) (hr : Room 4 X.A) (hm : X.mg "Wheel" = some (.ref F.C)) (ok : r.Ok) (ha : AD X F Γ [e] [.int r.size]) (hk : PK X kws (tAr X.K F Γ [.int r.freeze, optD r.stop, .str (holdS r.hold), optD r.cut]))
    (hg : Gl X "Wheel" := by rfl) (hall : (backToKw pos (keywordEach kws X.env)).all (·.1.isSome) = true := by rfl) (hks : (backToKw pos (keywordEach kws X.env)).filterMap (·.1) = (["freeze", "stop", "hold", "cut"] : List Str) := by rfl)
    (he : starEach [e] X.env = (false, eval e X.env) :: starEach [] X.env := by rfl) (hpl : ((backTo pos (starEach [e] X.env)).any (·.1) || (backToKw pos (keywordEach kws X.env)).any (·.1.isNone)) = false := by rfl) :
    PD X F Γ (.Call (.Name "Wheel" p) [e] kws pos) (.wh r) := by
  obtain ⟨fI, fdI, g, mk, okI, kb⟩ := M.ex
  refine pe_imp (pe_makeK (n := 1) (E := E0) mk okI hr hg hm kb pass0 ha hk hall hks (by decide) he hpl) fun σ H Q ⟨G, st, q⟩ => ⟨G, st, fun vs G1 H1 e1 dvs => ⟨G1, st.step e1, fun zs G2 H2 e2 dzs => ?_⟩⟩
  refine ⟨dvs.length, dzs.length, fun a dx n1 n2 ne => ?_⟩
  cases dvs with
  | cons h1 h2 =>
  cases h2
  cases h1
  cases dzs with
  | cons k1 k2 =>
  cases k1
  cases k2 with
  | cons k2 k3 =>
  obtain rfl := k2.optI
  cases k3 with
  | cons k3 k4 =>
  cases k3
  cases k4 with
  | cons k4 k5 =>
  obtain rfl := k4.optI
  cases k5
  refine ⟨a, dx, r, rfl, ok, upd_same, fun H' sH => ⟨rfl, ?_⟩⟩
  have g1 : G2 a = none := e2.v.free n1
  have s2 : Same H2 (upd H' a (.ins F.C dx (whF r))) := fun b o z => by
    have hb : b ≠ a := ne_of_none z n1
    rw [upd_ne hb]
    refine sH b o ?_
    rw [upd_ne hb, upd_ne (ne_of_none z n2)]
    exact z
  have e3 : Ext4 G2 H2 (upd G2 a (.ins F.C dx (whF r))) (upd H' a (.ins F.C dx (whF r))) := by
    refine ⟨fun b o z => ?_, s2, fun b o z => ?_, fun b h1 h2 => ?_⟩
    · rw [upd_ne (ne_of_none z g1)]; exact z
    · by_cases hb : b = a
      · subst hb; rw [upd_same] at z ⊢; exact z
      · rw [upd_ne hb] at z; exact s2 b o (e2.v b o z)
    · have hb : b ≠ a := fun z => h2 (by rw [z]; exact n1)
      rw [upd_ne hb]
      exact h1
  exact q _ _ _ ((e1.trans e2).trans e3) (.wh upd_same)
end
def R_law_made (ds : List Dx) (d : Dx) : Prop := ∃ r : Wr, ds = [dR r] ∧ r.Ok ∧ d = .wh r
theorem ok_law_made (Fn : Fun K "_law_made" "_law_made" s_law_made f fd) (T : Tx K mg C) (M : MkT P w K mg base C) : FnOk P w K mg base CX0 5 f fd ["_law_rules_here"] (SpF K C R_law_made) := by
  refine Fun.okD Fn c_law_made ?_ ?_
  · rintro ds d ⟨r, rfl, _, rfl⟩; rfl
  · rintro cdv A outer s H E G0 H0 ds d hr ⟨r, rfl, ok, rfl⟩
    exact bb_one (ss_ret (d := .wh r) (pd_makeW M hr T.mgW ok (ad_cons (pd_tx (pd_v 0) pd_int) ad_nil)
      (kd_cons (pd_tx (d := .int r.freeze) (pd_v 0) pd_int) (kd_cons (pd_tx (d := optD r.stop) (pd_v 0) pd_int) (kd_cons (pd_tx (d := .str (holdS r.hold)) (pd_v 0) pd_int) (kd_cons (pd_tx (d := optD r.cut) (pd_v 0) pd_int) kd_nil))))) rfl)
end
end Lap
set_option maxHeartbeats 4000000
/-! The law's defs, first part: numbers, rules, what is reckoned of a state. -/
namespace Lap
open PySem PySem.Spec L2
open PyProof.Rows hiding St
/-! ### the mirror of the law's own reckoning -/
def cellsL (ns : List Int) : List Int := match ns with
  | [] => [5]
  | n :: r => (n :: r).take 63
def lawN (ns : List Int) (i : Int) : Int :=
  let cells := cellsL ns
  let cell := cells.getD (i % (cells.length : Int)).toNat 0 + 13 * (i / (cells.length : Int))
  let low := cell % 1000003
  let high := cell / 1000003 % 999983
  let blend := ((low + 977 * i) * 48271 + 31 * high + cells.sum % 65521) % 2147483647
  blend * (blend + 31 * i + 7) % 2147483629 * 65537 + high
theorem cells_len (ns : List Int) : 0 < (cellsL ns).length ∧ (cellsL ns).length ≤ 63 := by
  cases ns with
  | nil => exact ⟨by decide, by decide⟩
  | cons n r =>
    show 0 < ((n :: r).take 63).length ∧ ((n :: r).take 63).length ≤ 63
    rw [List.length_take, List.length_cons]
    omega
theorem getM {α : Type} {l : List α} (g : α → Dx) {i : Nat} (h : i < l.length) (z : α) : (l.map g)[i]? = some (g (l.getD i z)) := by
  rw [List.getElem?_map, List.getElem?_eq_getElem h]
  simp [List.getD, List.getElem?_eq_getElem h]
section
variable {X : Cx} {F : Fm} {Γ : Gm} {a b : Expr} {pos : Pos}
theorem bb_then {Y : Cx} {F : Fm} {Γ : Gm} {st : Stmt} {rest : List Stmt} {N : Gm → Prop} {R : Dx → Prop} (N1 : Gm → Prop) (h : SS Y F Γ st N1 R) (k : ∀ Γ', N1 Γ' → BB Y F Γ' rest N R) : BB Y F Γ (st :: rest) N R :=
  bb_cons (ps_imp h fun D σ H ⟨G, st, n, r⟩ => ⟨G, st, fun Γ' σ' G' H' a b c => n Γ' σ' G' H' a b (k Γ' c), r⟩)
/-- the script != [] -/
theorem DXs.dpI {K : PySem.W.Frag} {H : Hp} : ∀ ns : List Int, DpAll K H (ns.map V.int) (ns.map PyData.int)
  | [] => .nil
  | n :: r => .cons (.int n) (DXs.dpI r)
theorem lay_ints : ∀ ns : List Int, PyData.canLayAll0 (ns.map PyData.int) = true ∧ PyData.depthAll (ns.map PyData.int) = 0
  | [] => ⟨rfl, rfl⟩
  | n :: r => by
    have ih := lay_ints r
    refine ⟨by simp [PyData.canLayAll0, PyData.canLay0, ih.1], ?_⟩
    simp only [List.map_cons, PyData.depthAll, PyData.depth, ih.2]
    rfl
theorem td_neScr {ns : List Int} (hu : X.A.units + 64 < cLine) (ha : PD X F Γ a (.scr ns)) (hb : PD X F Γ b (.lst [])) : TD X F Γ (.Compare a [.NotEq] [b] pos) (!ns.isEmpty) :=
  td_cmp (op_neD hu) (nomark _) ha hb fun x y G H Q hx hy s k => by
    cases hx with
    | scr q =>
      cases hy with
      | lst q2 r2 =>
        cases r2
        have sh : SeqAt.shaped (.list (ns.map PyData.int)) = true := by
          unfold SeqAt.shaped
          have := lay_ints ns
          simp only [PyData.canLay0, PyData.depth, this.1, this.2]
          rfl
        refine ⟨.list (ns.map PyData.int), .list [], .lst (s.seq q) (DXs.dpI ns), .lst (SqL.of (s _ _ q2)) .nil, sh, rfl, ?_⟩
        cases ns with
        | nil => exact k _ G H (.refl s) (.bl _)
        | cons n r => exact k _ G H (.refl s) (.bl _)
end
section
variable {P : Program} {w : World} {K : PySem.W.Frag} {mg : Str → Option Value} {base : Heap} {C : Addr} {f : Addr} {fd : FuncData}
def R_law_number (ds : List Dx) (d : Dx) : Prop := ∃ (ns : List Int) (i : Int), ds = [.scr ns, .int i] ∧ d = .int (lawN ns i)
theorem ok_law_number (Fn : Fun K "_law_number" "_law_number" s_law_number f fd) (T : Tx K mg C) : FnOk P w K mg base CX0 1 f fd ["_law_script", "_law_index"] (SpF K C R_law_number) := by
  refine Fun.okD Fn c_law_number ?_ ?_
  · rintro ds d ⟨n, i, rfl, rfl⟩; rfl
  · rintro cdv A outer s H E G0 H0 ds d hr ⟨ns, i, rfl, rfl⟩
    have hl := cells_len ns
    have l0 : (0 : Int) < ((cellsL ns).length : Int) := by omega
    have l1 : ((cellsL ns).length : Int) < 1073741824 := by omega
    refine bb_cons (ss_set 2 c_law_number.nd (d := .lst ((cellsL ns).map Dx.int)) (pd_if (td_neScr hr.units (pd_v 0) (pd_lst ad_nil)) (fun h => ?_) (fun h => ?_)) ?_)
    · cases ns with
      | nil => cases h
      | cons n r => exact pd_sliceScr (k := 63) (pd_v 0) pd_int
    · cases ns with
      | nil => exact pd_lst (ad_cons pd_int ad_nil)
      | cons n r => cases h
    have hz : (Dx.lst ((cellsL ns).map Dx.int)).sz = some (cellsL ns).length := by
      show some ((cellsL ns).map Dx.int).length = _
      rw [List.length_map]
    have m0 : 0 ≤ i % ((cellsL ns).length : Int) := Int.emod_nonneg _ (by omega)
    have m1 : i % ((cellsL ns).length : Int) < ((cellsL ns).length : Int) := Int.emod_lt_of_pos _ l0
    have lit : ∀ k j : Int, -(2 ^ 64) < k → k < 2 ^ 64 → CMul k j := fun k j h1 h2 => .inl ⟨h1, h2⟩
    have lit2 : ∀ k j : Int, -(2 ^ 64) < j → j < 2 ^ 64 → CMul k j := fun k j h1 h2 => .inr ⟨h1, h2⟩
    refine bb_cons (ss_set 3 c_law_number.nd (pd_add (pd_ix (ds := (cellsL ns).map Dx.int) (pd_v 2) (pd_mod (pd_intI T.f_int (pd_v 1)) (pd_len T.f_len (pd_v 2) hz) l0) (.inr rfl) (getM Dx.int (by omega) 0) m0) (pd_mul pd_int (pd_fdiv (pd_v 1) (pd_len T.f_len (pd_v 2) hz) ⟨l0, l1⟩) (lit _ _ (by decide) (by decide)))) ?_)
    refine bb_cons (ss_par 4 5 rfl c_law_number.nd (ad_cons (pd_mod (pd_intI T.f_int (pd_v 3)) pd_int (by decide)) (ad_cons (pd_mod (pd_intI T.f_int (pd_fdiv (pd_v 3) pd_int ⟨by decide, by decide⟩)) pd_int (by decide)) ad_nil)) ?_)
    refine bb_cons (ss_set 6 c_law_number.nd (pd_mod (pd_intI T.f_int (pd_sum (ns := cellsL ns) T.f_sum rfl (pd_v 2))) pd_int (by decide)) ?_)
    refine bb_cons (ss_set 7 c_law_number.nd (pd_mod (pd_intI T.f_int (pd_add (pd_add (pd_mul (pd_add (pd_v 4) (pd_mul pd_int (pd_v 1) (lit _ _ (by decide) (by decide)))) pd_int (lit2 _ _ (by decide) (by decide))) (pd_mul pd_int (pd_v 5) (lit _ _ (by decide) (by decide)))) (pd_v 6))) pd_int (by decide)) ?_)
    refine bb_one (ss_ret (pd_add (pd_mul (pd_mod (pd_intI T.f_int (pd_mul (pd_v 7) (pd_add (pd_add (pd_v 7) (pd_mul pd_int (pd_v 1) (lit _ _ (by decide) (by decide)))) pd_int) (lit _ _ ?_ ?_))) pd_int (by decide)) pd_int (lit2 _ _ (by decide) (by decide))) (pd_v 5)) rfl)
    · exact Int.lt_of_lt_of_le (by decide) (Int.emod_nonneg _ (by decide))
    · exact Int.lt_trans (Int.emod_lt_of_pos _ (by decide)) (by decide)

/-! rules -/
def sizeM (s : Int) : Int := ([4, 4, 6, 4] : List Int).getD (s % 4).toNat 4
def limM (s : Int) : Int := ([2, 1, 3, 2, 3] : List Int).getD (s / 4 % 5).toNat 2
def stopM (s : Int) : Option Int := if sizeM s = 4 ∧ s / 20 % 6 = 0 then (if s / 120 % 2 = 0 then none else some 4) else some (limM s)
def frzM (n m : Int) : Int := ([1, 1, 0, 2, 1, n / 2] : List Int).getD (m % 6).toNat 1
def hldM (m : Int) : Bool := ([true, true, false] : List Bool).getD (m / 6 % 3).toNat true
def cutM (m : Int) : Option Int := ([none, none, some 1, some 2, some 3] : List (Option Int)).getD (m / 18 % 5).toNat none
def rulesM (ns : List Int) (at_ : Int) : Wr := ⟨sizeM (lawN ns at_), frzM (sizeM (lawN ns at_)) (lawN ns (at_ + 1)), stopM (lawN ns at_), hldM (lawN ns (at_ + 1)), cutM (lawN ns (at_ + 1))⟩
theorem mem_getD {α : Type} {l : List α} {i : Nat} {z : α} (hz : z ∈ l) : l.getD i z ∈ l := by
  by_cases h : i < l.length
  · rw [List.getD_eq_getElem?_getD, List.getElem?_eq_getElem h]
    exact List.getElem_mem h
  · rw [List.getD_eq_getElem?_getD, List.getElem?_eq_none (by omega)]
    exact hz
theorem sizeM_ok (s : Int) : sizeM s = 4 ∨ sizeM s = 6 := by
  have h : sizeM s ∈ ([4, 4, 6, 4] : List Int) := mem_getD (by simp)
  simp at h
  omega
theorem limM_ok (s : Int) : 1 ≤ limM s ∧ limM s ≤ 3 := by
  have h : limM s ∈ ([2, 1, 3, 2, 3] : List Int) := mem_getD (by simp)
  simp at h
  omega
theorem rules_ok (ns : List Int) (at_ : Int) : (rulesM ns at_).Ok := by
  have hs := sizeM_ok (lawN ns at_)
  refine ⟨hs, ?_, fun k h => ?_, fun k h => ?_⟩
  · have h : frzM (sizeM (lawN ns at_)) (lawN ns (at_ + 1)) ∈ ([1, 1, 0, 2, 1, sizeM (lawN ns at_) / 2] : List Int) := mem_getD (by simp)
    simp at h
    show 0 ≤ frzM (sizeM (lawN ns at_)) (lawN ns (at_ + 1)) ∧ frzM (sizeM (lawN ns at_)) (lawN ns (at_ + 1)) ≤ sizeM (lawN ns at_) / 2
    omega
  · have h' : stopM (lawN ns at_) = some k := h
    show 1 ≤ k ∧ k ≤ sizeM (lawN ns at_)
    have hl := limM_ok (lawN ns at_)
    unfold stopM at h'
    split at h'
    · split at h'
      · cases h'
      · cases h'
        omega
    · cases h'
      omega
  · have h' : cutM (lawN ns (at_ + 1)) = some k := h
    show 1 ≤ k ∧ k ≤ sizeM (lawN ns at_)
    have h2 : cutM (lawN ns (at_ + 1)) ∈ ([none, none, some 1, some 2, some 3] : List (Option Int)) := mem_getD (by simp)
    rw [h'] at h2
    simp at h2
    omega
def R_law_rules (ds : List Dx) (d : Dx) : Prop := ∃ (ns : List Int) (i : Int), ds = [.scr ns, .int i] ∧ d = dR (rulesM ns i)
theorem ok_law_rules (Fn : Fun K "_law_rules" "_law_rules" s_law_rules f fd) (T : Tx K mg C) (D_law_number : Df P w K mg base CX0 1 "_law_number" ["_law_script", "_law_index"] (SpF K C R_law_number)) : FnOk P w K mg base CX0 2 f fd ["_law_script", "_law_at"] (SpF K C R_law_rules) := by
  refine Fun.okD Fn c_law_rules ?_ ?_
  · rintro ds d ⟨n, i, rfl, rfl⟩; rfl
  · rintro cdv A outer s H E G0 H0 ds d hr ⟨ns, i, rfl, rfl⟩
    refine bb_cons (ss_par 2 3 rfl c_law_rules.nd (ad_cons (pd_intI T.f_int (pd_call D_law_number hr pass0 (ad_cons (pd_v 0) (ad_cons (pd_v 1) ad_nil)) ⟨ns, i, rfl, rfl⟩)) (ad_cons (pd_intI T.f_int (pd_call D_law_number hr pass0 (ad_cons (pd_v 0) (ad_cons (pd_add (pd_v 1) pd_int) ad_nil)) ⟨ns, i + 1, rfl, rfl⟩)) ad_nil)) ?_)
    show BB _ _ [some (.d (.scr ns)), some (.d (.int i)), some (.d (.int (lawN ns i))), some (.d (.int (lawN ns (i + 1)))), none, none, none] _ _ _
    unfold rulesM
    generalize lawN ns i = sd
    generalize lawN ns (i + 1) = mr
    have p : ∀ k n : Int, 0 < n → 0 ≤ k % n ∧ k % n < n := fun k n h => ⟨Int.emod_nonneg _ (by omega), Int.emod_lt_of_pos _ h⟩
    refine bb_cons (ss_set 4 c_law_rules.nd (pd_ix (ds := ([4, 4, 6, 4] : List Int).map Dx.int) (pd_tup (ad_cons pd_int (ad_cons pd_int (ad_cons pd_int (ad_cons pd_int ad_nil))))) (pd_mod (pd_intI T.f_int (pd_v 2)) pd_int (by decide)) (.inl rfl) (getM Dx.int (by have := p sd 4 (by decide); show _ < 4; omega) 4) (p _ _ (by decide)).1) ?_)
    refine bb_cons (ss_set 5 c_law_rules.nd (pd_ix (ds := ([2, 1, 3, 2, 3] : List Int).map Dx.int) (pd_tup (ad_cons pd_int (ad_cons pd_int (ad_cons pd_int (ad_cons pd_int (ad_cons pd_int ad_nil)))))) (pd_mod (pd_intI T.f_int (pd_fdiv (pd_v 2) pd_int ⟨by decide, by decide⟩)) pd_int (by decide)) (.inl rfl) (getM Dx.int (by have := p (sd / 4) 5 (by decide); show _ < 5; omega) 2) (p _ _ (by decide)).1) ?_)
    refine bb_then (fun Γ => Γ = [some (.d (.scr ns)), some (.d (.int i)), some (.d (.int sd)), some (.d (.int mr)), some (.d (.int (sizeM sd))), some (.d (optD (stopM sd))), none]) (ss_if (td_w (tw_and (td_eq (pd_v 4) pd_int) (fun h => (tw_and1 (td_eq (pd_mod (pd_intI T.f_int (pd_fdiv (pd_v 2) pd_int ⟨by decide, by decide⟩)) pd_int (by decide)) pd_int))))) (fun h => ?_) (fun h => bb_nil ?_)) ?_
    · have h' := Bool.and_eq_true_iff.mp h
      have h1 : sizeM sd = 4 := V.int.inj (of_decide_eq_true h'.1)
      have h2 : sd / 20 % 6 = 0 := V.int.inj (of_decide_eq_true h'.2)
      have e : stopM sd = if sd / 120 % 2 = 0 then none else some 4 := if_pos ⟨h1, h2⟩
      refine bb_one (ss_set 5 c_law_rules.nd (d := optD (stopM sd)) (pd_if (td_eq (pd_mod (pd_intI T.f_int (pd_fdiv (pd_v 2) pd_int ⟨by decide, by decide⟩)) pd_int (by decide)) pd_int) (fun h => ?_) (fun h => ?_)) rfl)
      · rw [e, if_pos (V.int.inj (of_decide_eq_true h))]
        exact pd_non
      · rw [e, if_neg (fun z => of_decide_eq_false h (congrArg V.int z))]
        exact pd_int
    · have h : (decide (V.int (sizeM sd) = V.int 4) && decide (V.int (sd / 20 % 6) = V.int 0)) = false := h
      have e : stopM sd = some (limM sd) := if_neg (fun z => by
        rw [decide_eq_true (congrArg V.int z.1), decide_eq_true (congrArg V.int z.2)] at h
        cases h)
      rw [e]
      rfl
    rintro _ rfl
    refine bb_cons (ss_set 6 c_law_rules.nd (pd_ix (ds := ([1, 1, 0, 2, 1, sizeM sd / 2] : List Int).map Dx.int) (pd_tup (ad_cons pd_int (ad_cons pd_int (ad_cons pd_int (ad_cons pd_int (ad_cons pd_int (ad_cons (pd_fdiv (pd_v 4) pd_int ⟨by decide, by decide⟩) ad_nil))))))) (pd_mod (pd_intI T.f_int (pd_v 3)) pd_int (by decide)) (.inl rfl) (getM Dx.int (by have := p mr 6 (by decide); show _ < 6; omega) 1) (p _ _ (by decide)).1) ?_)
    exact bb_one (ss_ret (pd_tup (ad_cons (pd_v 4) (ad_cons (pd_v 6) (ad_cons (pd_v 5) (ad_cons
      (pd_ix (ds := ([true, true, false] : List Bool).map fun b => Dx.str (holdS b)) (pd_tup (ad_cons pd_str (ad_cons pd_str (ad_cons pd_str ad_nil)))) (pd_mod (pd_intI T.f_int (pd_fdiv (pd_v 3) pd_int ⟨by decide, by decide⟩)) pd_int (by decide)) (.inl rfl) (getM (fun b => Dx.str (holdS b)) (by have := p (mr / 6) 3 (by decide); show _ < 3; omega) true) (p _ _ (by decide)).1) (ad_cons
      (pd_ix (ds := ([none, none, some 1, some 2, some 3] : List (Option Int)).map optD) (pd_tup (ad_cons pd_non (ad_cons pd_non (ad_cons pd_int (ad_cons pd_int (ad_cons pd_int ad_nil)))))) (pd_mod (pd_intI T.f_int (pd_fdiv (pd_v 3) pd_int ⟨by decide, by decide⟩)) pd_int (by decide)) (.inl rfl) (getM optD (by have := p (mr / 18) 5 (by decide); show _ < 5; omega) none) (p _ _ (by decide)).1) ad_nil)))))) rfl)

/-! what is before, seen, shut -/
theorem R_pos {r : Wr} (ok : r.Ok) : 0 < r.size := by rcases ok.1 with h | h <;> omega
def R_law_ahead (ds : List Dx) (d : Dx) : Prop := ∃ (r : Wr) (a p : Int), ds = [dR r, .int a, .int p] ∧ r.Ok ∧ d = .bl (bef r a p)
theorem bef_half {r : Wr} (ok : r.Ok) (a p : Int) : decide ((0 : Int) ≤ (a - p) % r.size ∧ (a - p) % r.size < r.size / 2) = bef r a p := by
  have h0 := Int.emod_nonneg (a - p) (show r.size ≠ 0 by have := R_pos ok; omega)
  unfold bef
  rcases ok.1 with h | h
  · rw [h] at h0 ⊢
    exact decide_eq_decide.mpr (by omega)
  · rw [h] at h0 ⊢
    exact decide_eq_decide.mpr (by omega)
theorem ok_law_ahead (Fn : Fun K "_law_ahead" "_law_ahead" s_law_ahead f fd) (T : Tx K mg C) : FnOk P w K mg base CX0 1 f fd ["_law_rules_here", "_law_age", "_law_picture"] (SpF K C R_law_ahead) := by
  refine Fun.okD Fn c_law_ahead ?_ ?_
  · rintro ds d ⟨r, a, p, rfl, _, rfl⟩; rfl
  · rintro cdv A outer s H E G0 H0 ds d hr ⟨r, a, p, rfl, ok, rfl⟩
    rw [← bef_half ok]
    exact bb_one (ss_ret (pd_inRng (pd_mod (pd_intI T.f_int (pd_sub (pd_v 1) (pd_v 2))) (pd_tx (d := .int r.size) (pd_v 0) pd_int) (R_pos ok)) (pd_range1 T.f_range (pd_fdiv (pd_tx (d := .int r.size) (pd_v 0) pd_int) pd_int ⟨by decide, by decide⟩))) rfl)
def R_law_sees (ds : List Dx) (d : Dx) : Prop := ∃ (r : Wr) (o : Row) (p : Int), ds = [dR r, dRow o, .int p] ∧ r.Ok ∧ d = .bl (seesM r o p)
theorem ok_law_sees (Fn : Fun K "_law_sees" "_law_sees" s_law_sees f fd) (T : Tx K mg C) (D_law_ahead : Df P w K mg base CX0 1 "_law_ahead" ["_law_rules_here", "_law_age", "_law_picture"] (SpF K C R_law_ahead)) : FnOk P w K mg base CX0 2 f fd ["_law_rules_here", "_law_row", "_law_picture"] (SpF K C R_law_sees) := by
  refine Fun.okD Fn c_law_sees ?_ ?_
  · rintro ds d ⟨r, a, p, rfl, _, rfl⟩; rfl
  · rintro cdv A outer s H E G0 H0 ds d hr ⟨r, o, p, rfl, ok, rfl⟩
    rcases o with _ | ⟨wn, kn⟩
    · exact bb_cons (ss_if (td_w (tw_or (y := true) (td_isN (pd_v 1)) (fun h => by cases h))) (fun h => bb_one (ss_ret pd_bl rfl)) (fun h => by cases h))
    · have last : wB r wn p = true → BB (BX P w K mg base n_law_sees "_law_sees" s_law_sees f cdv A outer s H E) ⟨C, G0, H0⟩ (Γ0 n_law_sees.length [dR r, dRow (some (wn, kn)), .int p]) ((defBody s_law_sees).drop 1)
          (fun _ => Dx.bl (seesM r (some (wn, kn)) p) = .non) (fun d' => d' = Dx.bl (seesM r (some (wn, kn)) p)) := fun ha => by
        cases kn with
        | none => exact bb_one (ss_ret (pd_or (y := true) (pd_isN (pd_tx (d := .non) (pd_v 1) pd_int)) (fun h => by cases h)) (by show Dx.bl true = Dx.bl (wB r wn p && true); rw [ha]; rfl))
        | some b => exact bb_one (ss_ret (pd_or (pd_isN (pd_tx (d := .int b) (pd_v 1) pd_int)) (fun h => (pd_one (pd_not (pd_call D_law_ahead hr pass0 (ad_cons (pd_v 0) (ad_cons (pd_tx (d := .int b) (pd_v 1) pd_int) (ad_cons (pd_v 2) ad_nil))) ⟨r, b, p, rfl, ok, rfl⟩))))) (by show Dx.bl (false || !bef r b p) = Dx.bl (wB r wn p && !bef r b p); rw [ha]; rfl))
      cases wn with
      | none => exact bb_cons (ss_if (td_w (tw_or (td_isN (pd_v 1)) (fun h => (tw_or1 (td_w (tw_and (y := true) (td_notN (pd_tx (d := .non) (pd_v 1) pd_int)) (fun h => by cases h))))))) (fun h => by cases h) (fun h => bb_nil (last rfl)))
      | some a =>
        refine bb_cons (ss_if (td_w (tw_or (td_isN (pd_v 1)) (fun h => (tw_or1 (td_w (tw_and (td_notN (pd_tx (d := .int a) (pd_v 1) pd_int)) (fun h => (tw_and1 (td_not (td_val (pd_call D_law_ahead hr pass0 (ad_cons (pd_v 0) (ad_cons (pd_tx (d := .int a) (pd_v 1) pd_int) (ad_cons (pd_v 2) ad_nil))) ⟨r, a, p, rfl, ok, rfl⟩))))))))))) (fun h => ?_) (fun h => bb_nil (last ?_)))
        · have e : bef r a p = false := by
            have h' : (false || (true && !bef r a p)) = true := h
            simpa using h'
          exact bb_one (ss_ret pd_bl (by show Dx.bl false = Dx.bl (bef r a p && _); rw [e]; rfl))
        · have h' : (false || (true && !bef r a p)) = false := h
          show bef r a p = true
          simpa using h'
def R_law_is_shut (ds : List Dx) (d : Dx) : Prop := ∃ (r : Wr) (s : SR), ds = [dR r, dS s] ∧ d = .bl (stopd r s)
theorem ok_law_is_shut (Fn : Fun K "_law_is_shut" "_law_is_shut" s_law_is_shut f fd) (T : Tx K mg C) : FnOk P w K mg base CX0 1 f fd ["_law_rules_here", "_law_state"] (SpF K C R_law_is_shut) := by
  refine Fun.okD Fn c_law_is_shut ?_ ?_
  · rintro ds d ⟨r, s, rfl, rfl⟩; rfl
  · rintro cdv A outer s H E G0 H0 ds d hr ⟨⟨sz, fz, sp, hd, ct⟩, ⟨o, rd, tb⟩, rfl, rfl⟩
    cases sp with
    | none => exact bb_one (ss_ret (pd_and (y := true) (pd_notN (pd_tx (d := .non) (pd_v 0) pd_int)) (fun h => by cases h)) rfl)
    | some k =>
      refine bb_one (ss_ret (pd_and (pd_notN (pd_tx (d := .int k) (pd_v 0) pd_int)) (fun h => (pd_one (pd_not (pd_lt (pd_tx (d := .int tb) (pd_v 1) pd_int) (pd_tx (d := .int k) (pd_v 0) pd_int)))))) ?_)
      show Dx.bl (true && !decide (tb < k)) = Dx.bl (decide (k ≤ tb))
      by_cases h : tb < k
      · rw [decide_eq_true h, decide_eq_false (by omega)]
        rfl
      · rw [decide_eq_false h, decide_eq_true (by omega)]
        rfl

/-! aged -/
def gO (r : Wr) : Dx → Option Dx
  | .int a => some (.int ((a + 1) % r.size))
  | _ => some .non
def R_law_aged (ds : List Dx) (d : Dx) : Prop := ∃ (r : Wr) (s : SR), ds = [dR r, dS s] ∧ r.Ok ∧ s.Ok r ∧ d = dS (numM r s)
theorem ok_law_aged (Fn : Fun K "_law_aged" "_law_aged" s_law_aged f fd) (T : Tx K mg C) : FnOk P w K mg base CX0 1 f fd ["_law_rules_here", "_law_state"] (SpF K C R_law_aged) := by
  refine Fun.okD Fn c_law_aged ?_ ?_
  · rintro ds d ⟨r, s, rfl, _, _, rfl⟩; rfl
  · rintro cdv A outer s H E G0 H0 ds d hr ⟨r, ⟨o, rd, tb⟩, rfl, okr, oks, rfl⟩
    have sz := R_pos okr
    refine bb_cons (ss_asg (is := [2, 3, 4]) (pd_v 1) (gd_tup rfl (gds_cons (gd_name 2 c_law_aged.nd) (gds_cons (gd_name 3 c_law_aged.nd) (gds_cons (gd_name 4 c_law_aged.nd) gds_nil)))) ?_)
    refine bb_then (fun Γ => Γ = [some (.d (dR r)), some (.d (dS ⟨o, rd, tb⟩)), some (.d (dRow (rowN r o))), some (.d (dRd rd)), some (.d (.int tb)), none]) ?_ ?_
    · rcases o with _ | ⟨wn, kn⟩
      · exact ss_if (td_notN (pd_v 2)) (fun h => by cases h) (fun h => bb_nil rfl)
      · refine ss_if (td_notN (pd_v 2)) (fun h => ?_) (fun h => by cases h)
        refine bb_one (ss_set 2 c_law_aged.nd (pd_tupL T.f_tuple (pd_lc [("_law_age", 5)] (gO r) (ds := [optD wn, optD kn]) rfl c_law_aged.nd (blkOk_by (N := n_law_aged) (sc := defScope s_law_aged) (by decide +kernel)) (pl_seq (pd_v 2) (.inl rfl)) (by show 2 ≤ 1000; decide) fun d hd => ?_)) ?_)
        · obtain ⟨x, rfl⟩ : ∃ x, d = optD x := by
            rcases List.mem_cons.mp hd with rfl | hd
            · exact ⟨_, rfl⟩
            rcases List.mem_cons.mp hd with rfl | hd
            · exact ⟨_, rfl⟩
            cases hd
          refine ⟨_, true, fun s H C cl fp => gd_name 5 c_law_aged.nd, fun s H C cl fp => tds_nil, fun _ => ⟨optD (olderM r x), ?_, fun s H C cl fp => ?_⟩, fun h => by cases h⟩
          · cases x <;> rfl
          · cases x with
            | none => exact pd_if (td_isN (pd_v 5)) (fun h => pd_non) (fun h => by cases h)
            | some a => exact pd_if (td_isN (pd_v 5)) (fun h => by cases h) (fun h => pd_mod (pd_intI T.f_int (pd_add (pd_v 5) pd_int)) (pd_tx (d := .int r.size) (pd_v 0) pd_int) sz)
        · cases wn <;> cases kn <;> rfl
    rintro _ rfl
    refine bb_then (fun Γ => Γ = [some (.d (dR r)), some (.d (dS ⟨o, rd, tb⟩)), some (.d (dRow (rowN r o))), some (.d (dRd (rdN r rd))), some (.d (.int tb)), none]) ?_ ?_
    · rcases rd with _ | ⟨p, b⟩
      · exact ss_if (td_notN (pd_v 3)) (fun h => by cases h) (fun h => bb_nil rfl)
      · refine ss_if (td_notN (pd_v 3)) (fun h => ?_) (fun h => by cases h)
        refine bb_cons (ss_set 3 c_law_aged.nd (pd_tup (ad_cons (pd_mod (pd_intI T.f_int (pd_add (pd_tx (d := .int p) (pd_v 3) pd_int) pd_int)) (pd_tx (d := .int r.size) (pd_v 0) pd_int) sz) (ad_cons (pd_tx (d := .bl b) (pd_v 3) pd_int) ad_nil))) ?_)
        obtain ⟨sz', fz, sp, hd, ct⟩ := r
        cases ct with
        | none => exact bb_one (ss_if (td_w (tw_and (y := true) (td_notN (pd_tx (d := .non) (pd_v 0) pd_int)) (fun h => by cases h))) (fun h => by cases h) (fun _ => bb_nil rfl))
        | some c =>
          refine bb_one (ss_if (td_w (tw_and (td_notN (pd_tx (d := .int c) (pd_v 0) pd_int)) (fun h => (tw_and1 (td_not (td_lt (pd_tx (d := .int ((p + 1) % sz')) (pd_v 3) pd_int) (pd_tx (d := .int c) (pd_v 0) pd_int))))))) (fun h => ?_) (fun h => bb_nil ?_))
          · have hc : ¬ (p + 1) % sz' < c := of_decide_eq_false (by simpa [Dx.isNon] using h)
            have e : rdN ⟨sz', fz, sp, hd, some c⟩ (some (p, b)) = none := if_pos (by show c ≤ (p + 1) % sz'; omega)
            rw [e]
            exact bb_one (ss_set 3 c_law_aged.nd pd_non rfl)
          · have hc : (p + 1) % sz' < c := of_decide_eq_true (by simpa [Dx.isNon] using h)
            have e : rdN ⟨sz', fz, sp, hd, some c⟩ (some (p, b)) = some ((p + 1) % sz', b) := if_neg (by show ¬ c ≤ (p + 1) % sz'; omega)
            rw [e]
            rfl
    rintro _ rfl
    have e : tbN r tb = if tb < r.size then tb + 1 else tb := by
      have h2 : tb ≤ r.size := oks.2.2.2
      unfold tbN
      split <;> split <;> omega
    refine bb_one (ss_ret (d := dS ⟨rowN r o, rdN r rd, tbN r tb⟩) (pd_tup (ad_cons (pd_v 2) (ad_cons (pd_v 3) (ad_cons (pd_if (d := .int (tbN r tb)) (td_lt (pd_v 4) (pd_tx (d := .int r.size) (pd_v 0) pd_int)) (fun h => ?_) (fun h => ?_)) ad_nil)))) rfl)
    · rw [e, if_pos (of_decide_eq_true h)]
      exact pd_add (pd_v 4) pd_int
    · rw [e, if_neg (of_decide_eq_false h)]
      exact pd_v 4

/-! passed -/
def ifElse : Stmt → List Stmt
  | .If _ _ o _ => o
  | _ => []
/-- whose pictures hold the warden back -/
def picsM (r : Wr) (d : Rdr) : List Int := 0 :: match d with
  | none => []
  | some (p, _) => if r.hold then [p] else []
theorem ripe_pics {r : Wr} {d : Rdr} {a : Int} : (picsM r d).all (fun p => bef r a p) = ripeM r d (some a) := by
  rcases d with _ | ⟨p, b⟩
  · show (bef r a 0 && true) = (bef r a 0 && true)
    rfl
  · show (bef r a 0 && (if r.hold then [p] else []).all (fun p => bef r a p)) = (bef r a 0 && (!r.hold || bef r a p))
    cases r.hold
    · rfl
    · simp
def R_law_passed (ds : List Dx) (d : Dx) : Prop := ∃ (r : Wr) (s : SR), ds = [dR r, dS s] ∧ r.Ok ∧ d = dS (passM r s)
def gB (r : Wr) (a : Int) : Dx → Option Dx
  | .int p => some (.bl (bef r a p))
  | _ => none
theorem ok_law_passed (Fn : Fun K "_law_passed" "_law_passed" s_law_passed f fd) (T : Tx K mg C) (D_law_ahead : Df P w K mg base CX0 1 "_law_ahead" ["_law_rules_here", "_law_age", "_law_picture"] (SpF K C R_law_ahead)) : FnOk P w K mg base CX0 2 f fd ["_law_rules_here", "_law_state"] (SpF K C R_law_passed) := by
  refine Fun.okD Fn c_law_passed ?_ ?_
  · rintro ds d ⟨r, s, rfl, _, rfl⟩; rfl
  · rintro cdv A outer s H E G0 H0 ds d hr ⟨r, ⟨o, rd, tb⟩, rfl, okr, rfl⟩
    refine bb_cons (ss_asg (is := [2, 3, 4]) (pd_v 1) (gd_tup rfl (gds_cons (gd_name 2 c_law_passed.nd) (gds_cons (gd_name 3 c_law_passed.nd) (gds_cons (gd_name 4 c_law_passed.nd) gds_nil)))) ?_)
    refine bb_cons (ss_set 5 c_law_passed.nd (d := .lst ((picsM r rd).map Dx.int)) ?_ ?_)
    · rcases rd with _ | ⟨p, b⟩
      · exact pd_catL (ds := [.int 0]) (es' := []) (pd_lst (ad_cons pd_int ad_nil)) (pd_if (td_w (tw_and (y := true) (td_notN (pd_v 3)) (fun h => by cases h))) (fun h => by cases h) (fun h => pd_lst ad_nil)) (by decide)
      · have hy : ∀ q, (!(dRd (some (p, b))).isNon && decide (V.str (holdS r.hold) = V.str "yes")) = q → r.hold = q := fun q h => by
          rw [hold_yes] at h
          exact h
        refine pd_catL (ds := [.int 0]) (es' := (if r.hold then [p] else []).map Dx.int) (pd_lst (ad_cons pd_int ad_nil)) (pd_if (td_w (tw_and (td_notN (pd_v 3)) (fun h => (tw_and1 (td_eq (pd_tx (d := .str (holdS r.hold)) (pd_v 0) pd_int) pd_str))))) (fun h => ?_) (fun h => ?_)) ?_
        · rw [hy _ h]
          exact pd_lst (ad_cons (pd_tx (d := .int p) (pd_v 3) pd_int) ad_nil)
        · rw [hy _ h]
          exact pd_lst ad_nil
        · cases r.hold <;> (show (_ : Nat) ≤ 1000; simp)
    have hmost : ∀ k, k ∈ r.freeze :: (picsM r rd).drop 1 → (∀ y, y ∈ r.freeze :: (picsM r rd).drop 1 → y ≤ k) → k = mostM r rd := fun k hk hm => by
      rcases rd with _ | ⟨p, b⟩
      · have hk' : k ∈ [r.freeze] := hk
        show k = r.freeze
        simpa using hk'
      · have hk' : k ∈ r.freeze :: (if r.hold then [p] else []) := hk
        have hm' : ∀ y, y ∈ r.freeze :: (if r.hold then [p] else []) → y ≤ k := hm
        show k = if r.hold then (if p > r.freeze then p else r.freeze) else r.freeze
        cases hh : r.hold with
        | false =>
          rw [hh] at hk'
          simpa using hk'
        | true =>
          rw [hh] at hk' hm'
          have h1 := hm' r.freeze (by simp)
          have h2 := hm' p (by simp)
          rw [if_pos rfl] at hk'
          rw [if_pos rfl]
          rcases List.mem_cons.mp hk' with e | e
          · split <;> omega
          · have e2 : k = p := by simpa using e
            split <;> omega
    have hpl : (picsM r rd).length ≤ 2 := by
      rcases rd with _ | ⟨p, b⟩
      · show 1 ≤ 2
        decide
      · show (0 :: (if r.hold then [p] else [])).length ≤ 2
        cases r.hold <;> simp
    refine bb_cons (ss_set 6 c_law_passed.nd (pd_maxL (ns := r.freeze :: (picsM r rd).drop 1) (m := mostM r rd) T.f_max rfl (pd_catL (ds := [.int r.freeze]) (es' := ((picsM r rd).map Dx.int).drop 1) (pd_lst (ad_cons (pd_tx (d := .int r.freeze) (pd_v 0) pd_int) ad_nil)) (pd_sliceFrom1 (pd_v 5) pd_int) (by
      rw [List.length_drop, List.length_map]
      show 1 + _ ≤ 1000
      omega)) (Nat.succ_pos _) hmost) ?_)
    have e : ∀ (a : Int) (l : List Int), (l.map Dx.int).filterMap (gB r a) = (l.map fun p => bef r a p).map Dx.bl := fun a l => by
      induction l with
      | nil => rfl
      | cons x l ih =>
        show Dx.bl (bef r a x) :: (l.map Dx.int).filterMap (gB r a) = _
        rw [ih]
        rfl
    have e3 : ∀ a : Int, ((picsM r rd).map fun p => bef r a p).all id = ripeM r rd (some a) := fun a => by
      rw [← ripe_pics, List.all_map]
      rfl
    have els : ∀ (wn kn : Option Int), ripeM r rd kn = false → BB (BX P w K mg base n_law_passed "_law_passed" s_law_passed f cdv A outer s H E) ⟨C, G0, H0⟩
        [some (.d (dR r)), some (.d (dS ⟨some (wn, kn), rd, tb⟩)), some (.d (dRow (some (wn, kn)))), some (.d (dRd rd)), some (.d (.int tb)), some (.d (.lst ((picsM r rd).map Dx.int))), some (.d (.int (mostM r rd))), none] (ifElse ((defBody s_law_passed).getD 3 (.Pass ⟨0, 0, 0, 0⟩)))
        (fun Γ => Γ = [some (.d (dR r)), some (.d (dS ⟨some (wn, kn), rd, tb⟩)), some (.d (dRow (rowP r rd (some (wn, kn))))), some (.d (dRd rd)), some (.d (.int tb)), some (.d (.lst ((picsM r rd).map Dx.int))), some (.d (.int (mostM r rd))), none])
        (fun d' => d' = dS (passM r ⟨some (wn, kn), rd, tb⟩)) := fun wn kn hk => by
      cases wn with
      | none =>
        have er : rowP r rd (some (none, kn)) = some (none, kn) := if_neg (by rw [hk]; decide)
        rw [er]
        exact bb_one (ss_if (td_w (tw_and (td_notN (pd_v 2)) (fun h => (tw_and (y := true) (td_notN (pd_tx (d := .non) (pd_v 2) pd_int)) (fun h => by cases h))))) (fun h => by cases h) (fun h => bb_nil rfl))
      | some a =>
        have er : rowP r rd (some (some a, kn)) = if ripeM r rd (some a) && decide (r.freeze ≤ a) then some (none, kn) else some (some a, kn) := if_neg (by rw [hk]; decide)
        rw [er]
        refine bb_one (ss_if (td_w (tw_and (td_notN (pd_v 2)) (fun h => (tw_and (td_notN (pd_tx (d := .int a) (pd_v 2) pd_int)) (fun h => (tw_and1 (td_ge (pd_tx (d := .int a) (pd_v 2) pd_int) (pd_tx (d := .int r.freeze) (pd_v 0) pd_int)))))))) (fun h => ?_) (fun h => bb_nil ?_))
        · have h' : decide (r.freeze ≤ a) = true := h
          rw [h', Bool.and_true]
          refine bb_one (ss_if (td_val (pd_all (bs := (picsM r rd).map fun p => bef r a p) T.f_all rfl ?_)) (fun h => ?_) (fun h => bb_nil ?_))
          · rw [← e]
            refine pd_lc [("_law_one", 7)] (gB r a) (ds := (picsM r rd).map Dx.int) rfl c_law_passed.nd (blkOk_by (N := n_law_passed) (sc := defScope s_law_passed) (by decide +kernel)) (pl_seq (pd_v 5) (.inr rfl)) (by rw [List.length_map]; omega) fun d hd => ?_
            obtain ⟨p, _, rfl⟩ := List.mem_map.mp hd
            exact ⟨_, true, fun s H C cl fp => gd_name 7 c_law_passed.nd, fun s H C cl fp => tds_nil, fun _ => ⟨.bl (bef r a p), rfl, fun s H C cl fp => pd_call D_law_ahead hr pass0 (ad_cons (pd_v 0) (ad_cons (pd_tx (d := .int a) (pd_v 2) pd_int) (ad_cons (pd_v 7) ad_nil))) ⟨r, a, p, rfl, okr, rfl⟩⟩, fun h => by cases h⟩
          · rw [e3] at h
            rw [h]
            exact bb_one (ss_set 2 c_law_passed.nd (pd_tup (ad_cons pd_non (ad_cons (pd_tx (d := optD kn) (pd_v 2) pd_int) ad_nil))) rfl)
          · rw [e3] at h
            rw [h]
            rfl
        · have h' : decide (r.freeze ≤ a) = false := h
          rw [h', Bool.and_false]
          rfl
    refine bb_then (fun Γ => Γ = [some (.d (dR r)), some (.d (dS ⟨o, rd, tb⟩)), some (.d (dRow (rowP r rd o))), some (.d (dRd rd)), some (.d (.int tb)), some (.d (.lst ((picsM r rd).map Dx.int))), some (.d (.int (mostM r rd))), none]) ?_ ?_
    · rcases o with _ | ⟨wn, kn⟩
      · exact ss_if (td_w (tw_and (y := true) (td_notN (pd_v 2)) (fun h => by cases h))) (fun h => by cases h) (fun h => bb_one (ss_if (td_w (tw_and (y := true) (td_notN (pd_v 2)) (fun h => by cases h))) (fun h => by cases h) (fun h => bb_nil rfl)))
      · cases kn with
        | none => exact ss_if (td_w (tw_and (td_notN (pd_v 2)) (fun h => (tw_and (y := true) (td_notN (pd_tx (d := .non) (pd_v 2) pd_int)) (fun h => by cases h))))) (fun h => by cases h) (fun h => els wn none rfl)
        | some b =>
          refine ss_if (td_w (tw_and (td_notN (pd_v 2)) (fun h => (tw_and (td_notN (pd_tx (d := .int b) (pd_v 2) pd_int)) (fun h => (tw_and1 (td_val (pd_all (bs := (picsM r rd).map fun p => bef r b p) T.f_all rfl ?_)))))))) (fun h => ?_) (fun h => els wn (some b) ?_)
          · rw [← e]
            refine pd_lc [("_law_one", 7)] (gB r b) (ds := (picsM r rd).map Dx.int) rfl c_law_passed.nd (blkOk_by (N := n_law_passed) (sc := defScope s_law_passed) (by decide +kernel)) (pl_seq (pd_v 5) (.inr rfl)) (by rw [List.length_map]; omega) fun d hd => ?_
            obtain ⟨p, _, rfl⟩ := List.mem_map.mp hd
            exact ⟨_, true, fun s H C cl fp => gd_name 7 c_law_passed.nd, fun s H C cl fp => tds_nil, fun _ => ⟨.bl (bef r b p), rfl, fun s H C cl fp => pd_call D_law_ahead hr pass0 (ad_cons (pd_v 0) (ad_cons (pd_tx (d := .int b) (pd_v 2) pd_int) (ad_cons (pd_v 7) ad_nil))) ⟨r, b, p, rfl, okr, rfl⟩⟩, fun h => by cases h⟩
          · have h' : ((picsM r rd).map fun p => bef r b p).all id = true := h
            rw [e3] at h'
            have er : rowP r rd (some (wn, some b)) = none := if_pos h'
            rw [er]
            exact bb_one (ss_set 2 c_law_passed.nd pd_non rfl)
          · have h' : ((picsM r rd).map fun p => bef r b p).all id = false := h
            rw [e3] at h'
            exact h'
    rintro _ rfl
    have et : (if mostM r rd < tb then mostM r rd else tb) = if tb < mostM r rd then tb else mostM r rd := by split <;> split <;> omega
    refine bb_one (ss_ret (d := dS ⟨rowP r rd o, rd, if mostM r rd < tb then mostM r rd else tb⟩) (pd_tup (ad_cons (pd_v 2) (ad_cons (pd_v 3) (ad_cons (pd_if (d := .int (if mostM r rd < tb then mostM r rd else tb)) (td_lt (pd_v 4) (pd_v 6)) (fun h => ?_) (fun h => ?_)) ad_nil)))) rfl)
    · rw [et, if_pos (of_decide_eq_true h)]
      exact pd_v 4
    · rw [et, if_neg (of_decide_eq_false h)]
      exact pd_v 6
end
end Lap
set_option maxHeartbeats 4000000
/-! The law's defs, second part: moves, a drawn state. -/
namespace Lap
open PySem PySem.Spec L2
open PyProof.Rows hiding St
section
variable {P : Program} {w : World} {K : PySem.W.Frag} {mg : Str → Option Value} {base : Heap} {C : Addr} {f : Addr} {fd : FuncData}
/-- a deed and the state behind it -/
def dMv (r : Wr) (s : SR) (k : Str) : Dx := .tup [.str k, dS (doneM r s k)]
theorem dm_tick (r : Wr) (s : SR) : doneM r s "tick" = numM r s := by
  unfold doneM
  rw [if_neg (by decide +kernel), if_neg (by decide +kernel), if_neg (by decide +kernel), if_neg (by decide +kernel), if_neg (by decide +kernel)]
theorem dm_write (r : Wr) (s : SR) : doneM r s "write" = ⟨some (some 0, none), (numM r s).rd, (numM r s).tb⟩ := by
  unfold doneM
  rw [if_neg (by decide +kernel), if_neg (by decide +kernel), if_neg (by decide +kernel), if_pos rfl]
theorem dm_strike (r : Wr) (s : SR) : doneM r s "strike" = ⟨rowK (numM r s).row, (numM r s).rd, (numM r s).tb⟩ := by
  unfold doneM
  rw [if_neg (by decide +kernel), if_neg (by decide +kernel), if_neg (by decide +kernel), if_neg (by decide +kernel), if_pos rfl]
theorem dm_open (r : Wr) (s : SR) : doneM r s "open" = ⟨s.row, some (0, there s.row), s.tb⟩ := by
  unfold doneM
  rw [if_neg (by decide +kernel), if_pos rfl]
theorem dm_close (r : Wr) (s : SR) : doneM r s "close" = ⟨s.row, none, s.tb⟩ := by
  unfold doneM
  rw [if_neg (by decide +kernel), if_neg (by decide +kernel), if_pos rfl]
theorem dm_pass (r : Wr) (s : SR) : doneM r s "pass" = passM r s := by
  unfold doneM
  rw [if_pos rfl]
def movesM (r : Wr) (s : SR) : List Dx := (deedsM r s).map (dMv r s)
/-- what a state that is not stopped adds -/
def addM : Row → List Str
  | none => [("write" : Str)]
  | some (_, none) => [("strike" : Str)]
  | some (_, some _) => []
def freeM (r : Wr) (s : SR) : List Str := if stopd r s then [] else ("tick" : Str) :: addM s.row
theorem add_len : ∀ o : Row, (addM o).length ≤ 1
  | none => Nat.le_refl _
  | some (_, none) => Nat.le_refl _
  | some (_, some _) => Nat.zero_le _
theorem free_len (r : Wr) (s : SR) : (freeM r s).length ≤ 2 := by
  unfold freeM
  have := add_len s.row
  split
  · exact Nat.zero_le _
  · rw [List.length_cons]
    omega
theorem deeds_free (r : Wr) (s : SR) : deedsM r s = freeM r s ++ (if s.rd.isNone then [("open" : Str)] else [("close" : Str)]) ++ [("pass" : Str)] := by
  obtain ⟨o, rd, tb⟩ := s
  unfold deedsM freeM
  generalize stopd r ⟨o, rd, tb⟩ = b
  rcases o with _ | ⟨wn, _ | kn⟩ <;> cases b <;> rfl
def R_law_moves (ds : List Dx) (d : Dx) : Prop := ∃ (r : Wr) (s : SR), ds = [dR r, dS s] ∧ r.Ok ∧ s.Ok r ∧ d = .lst (movesM r s)
theorem ok_law_moves (Fn : Fun K "_law_moves" "_law_moves" s_law_moves f fd) (T : Tx K mg C) (D_law_aged : Df P w K mg base CX0 1 "_law_aged" ["_law_rules_here", "_law_state"] (SpF K C R_law_aged)) (D_law_is_shut : Df P w K mg base CX0 1 "_law_is_shut" ["_law_rules_here", "_law_state"] (SpF K C R_law_is_shut))
    (D_law_passed : Df P w K mg base CX0 2 "_law_passed" ["_law_rules_here", "_law_state"] (SpF K C R_law_passed)) : FnOk P w K mg base CX0 3 f fd ["_law_rules_here", "_law_state"] (SpF K C R_law_moves) := by
  refine Fun.okD Fn c_law_moves ?_ ?_
  · rintro ds d ⟨r, s, rfl, _, _, rfl⟩; rfl
  · rintro cdv A outer s H E G0 H0 ds d hr ⟨r, ⟨o, rd, tb⟩, rfl, okr, oks, rfl⟩
    refine bb_cons (ss_asg (is := [2, 3, 4]) (pd_v 1) (gd_tup rfl (gds_cons (gd_name 2 c_law_moves.nd) (gds_cons (gd_name 3 c_law_moves.nd) (gds_cons (gd_name 4 c_law_moves.nd) gds_nil)))) ?_)
    refine bb_cons (ss_parOwnL 5 6 rfl c_law_moves.nd (pd_call D_law_aged hr pass0 (ad_cons (pd_v 0) (ad_cons (pd_v 1) ad_nil)) ⟨r, ⟨o, rd, tb⟩, rfl, okr, oks, rfl⟩) ?_)
    have lateW : ∀ q : Row, dS ⟨q, (numM r ⟨o, rd, tb⟩).rd, (numM r ⟨o, rd, tb⟩).tb⟩ = .tup (dRow q :: [dRd (rdN r rd), .int (tbN r tb)]) := fun q => rfl
    refine bb_then (fun Γ => Γ = [some (.d (dR r)), some (.d (dS ⟨o, rd, tb⟩)), some (.d (dRow o)), some (.d (dRd rd)), some (.d (.int tb)), some (.own ((freeM r ⟨o, rd, tb⟩).map (dMv r ⟨o, rd, tb⟩))), some (.d (dS (numM r ⟨o, rd, tb⟩)))])
      (ss_if (td_not (td_val (pd_call D_law_is_shut hr pass0 (ad_cons (pd_v 0) (ad_cons (pd_v 1) ad_nil)) ⟨r, ⟨o, rd, tb⟩, rfl, rfl⟩))) (fun h => ?_) (fun h => bb_nil ?_)) ?_
    · have hs : stopd r ⟨o, rd, tb⟩ = false := by simpa using h
      have ef : freeM r ⟨o, rd, tb⟩ = ("tick" : Str) :: addM o := if_neg (by rw [hs]; decide)
      rw [ef]
      have em : dMv r ⟨o, rd, tb⟩ "tick" = .tup [.str "tick", dS (numM r ⟨o, rd, tb⟩)] := by unfold dMv; rw [dm_tick]
      refine bb_cons (ss_append 5 (pd_tup (ad_cons pd_str (ad_cons (pd_v 6) ad_nil))) (Nat.zero_le _) ?_)
      rcases o with _ | ⟨wn, kn⟩
      · refine bb_one (ss_if (td_isN (pd_v 2)) (fun h => ?_) (fun h => by cases h))
        refine bb_one (ss_append 5 (l := [_]) (pd_tup (ad_cons pd_str (ad_cons (pd_catT (d1 := .tup [.int 0, .non]) (ds' := []) (d2 := dRd (rdN r rd)) (es' := [.int (tbN r tb)]) (pd_tup (ad_cons (pd_tup (ad_cons pd_int (ad_cons pd_non ad_nil))) ad_nil)) (pd_sliceTup1 (d0 := dRow none) (ds := [dRd (rdN r rd), .int (tbN r tb)]) (pd_v 6) pd_int)) ad_nil))) (by show 1 ≤ 1000; decide) ?_)
        show _ = _
        rw [List.map_cons, em]
        have ew : dMv r ⟨none, rd, tb⟩ "write" = .tup [.str "write", .tup ([.tup [.int 0, .non]] ++ [dRd (rdN r rd), .int (tbN r tb)])] := by unfold dMv; rw [dm_write]; rfl
        show _ = [_, _, _, _, _, some (Sl.own (_ :: [dMv r ⟨none, rd, tb⟩ "write"])), _]
        rw [ew]
        rfl
      · refine bb_one (ss_if (td_isN (pd_v 2)) (fun h => by cases h) (fun h => ?_))
        cases kn with
        | none =>
          refine bb_one (ss_if (td_isN (pd_tx (d := .non) (pd_v 2) pd_int)) (fun h => ?_) (fun h => by cases h))
          refine bb_one (ss_append 5 (l := [_]) (pd_tup (ad_cons pd_str (ad_cons (pd_catT (d1 := .tup [optD (olderM r wn), .int 0]) (ds' := []) (d2 := dRd (rdN r rd)) (es' := [.int (tbN r tb)]) (pd_tup (ad_cons (pd_tup (ad_cons (pd_tx (d := optD (olderM r wn)) (pd_tx (d := .tup [optD (olderM r wn), .non]) (pd_v 6) pd_int) pd_int) (ad_cons pd_int ad_nil))) ad_nil)) (pd_sliceTup1 (d0 := dRow (rowN r (some (wn, none)))) (ds := [dRd (rdN r rd), .int (tbN r tb)]) (pd_v 6) pd_int)) ad_nil))) (by show 1 ≤ 1000; decide) ?_)
          show _ = _
          rw [List.map_cons, em]
          have ew : dMv r ⟨some (wn, none), rd, tb⟩ "strike" = .tup [.str "strike", .tup ([.tup [optD (olderM r wn), .int 0]] ++ [dRd (rdN r rd), .int (tbN r tb)])] := by unfold dMv; rw [dm_strike]; rfl
          show _ = [_, _, _, _, _, some (Sl.own (_ :: [dMv r ⟨some (wn, none), rd, tb⟩ "strike"])), _]
          rw [ew]
          rfl
        | some b =>
          refine bb_one (ss_if (td_isN (pd_tx (d := .int b) (pd_v 2) pd_int)) (fun h => by cases h) (fun h => bb_nil ?_))
          show _ = _
          rw [List.map_cons, em]
          rfl
    · have hs : stopd r ⟨o, rd, tb⟩ = true := by simpa using h
      have ef : freeM r ⟨o, rd, tb⟩ = [] := if_pos hs
      rw [ef]
      rfl
    rintro _ rfl
    refine bb_then (fun Γ => Γ = [some (.d (dR r)), some (.d (dS ⟨o, rd, tb⟩)), some (.d (dRow o)), some (.d (dRd rd)), some (.d (.int tb)), some (.own ((freeM r ⟨o, rd, tb⟩ ++ (if rd.isNone then [("open" : Str)] else [("close" : Str)])).map (dMv r ⟨o, rd, tb⟩))), some (.d (dS (numM r ⟨o, rd, tb⟩)))]) ?_ ?_
    · have hl : ((freeM r ⟨o, rd, tb⟩).map (dMv r ⟨o, rd, tb⟩)).length ≤ 1000 := by
        rw [List.length_map]
        have := free_len r ⟨o, rd, tb⟩
        omega
      have and_there : there o = (o.isSome && (match o with | some (_, none) => true | _ => false)) := by rcases o with _ | ⟨wn, _ | kn⟩ <;> rfl
      rcases rd with _ | ⟨p, b⟩
      · refine ss_if (td_isN (pd_v 3)) (fun h => ?_) (fun h => by cases h)
        have eo : dMv r ⟨o, none, tb⟩ "open" = .tup [.str "open", .tup [dRow o, .tup [.int 0, .bl (there o)], .int tb]] := by unfold dMv; rw [dm_open]; rfl
        refine bb_one (ss_append 5 (d := .tup [.str "open", .tup [dRow o, .tup [.int 0, .bl (there o)], .int tb]]) (pd_tup (ad_cons pd_str (ad_cons (pd_tup (ad_cons (pd_v 2) (ad_cons (pd_tup (ad_cons pd_int (ad_cons ?_ ad_nil))) (ad_cons (pd_v 4) ad_nil)))) ad_nil))) hl ?_)
        · rcases o with _ | ⟨wn, kn⟩
          · show PD _ _ _ _ (.bl (false && true))
            exact pd_and (pd_notN (da := .non) (pd_v 2)) (fun h => by cases h)
          · cases kn with
            | none =>
              show PD _ _ _ _ (.bl (true && true))
              exact pd_and (pd_notN (da := dRow (some (wn, none))) (pd_v 2)) (fun h => pd_one (pd_isN (pd_tx (d := .non) (pd_v 2) pd_int)))
            | some k =>
              show PD _ _ _ _ (.bl (true && false))
              exact pd_and (pd_notN (da := dRow (some (wn, some k))) (pd_v 2)) (fun h => pd_one (pd_isN (pd_tx (d := .int k) (pd_v 2) pd_int)))
        · show _ = _
          rw [← eo, List.map_append]
          rfl
      · refine ss_if (td_isN (pd_v 3)) (fun h => by cases h) (fun h => ?_)
        have eo : dMv r ⟨o, some (p, b), tb⟩ "close" = .tup [.str "close", .tup [dRow o, .non, .int tb]] := by unfold dMv; rw [dm_close]; rfl
        refine bb_one (ss_append 5 (d := .tup [.str "close", .tup [dRow o, .non, .int tb]]) (pd_tup (ad_cons pd_str (ad_cons (pd_tup (ad_cons (pd_v 2) (ad_cons pd_non (ad_cons (pd_v 4) ad_nil)))) ad_nil))) hl ?_)
        show _ = _
        rw [← eo, List.map_append]
        rfl
    rintro _ rfl
    refine bb_freeze (i := 5) rfl ?_
    have ep : dMv r ⟨o, rd, tb⟩ "pass" = .tup [.str "pass", dS (passM r ⟨o, rd, tb⟩)] := by unfold dMv; rw [dm_pass]
    have el : movesM r ⟨o, rd, tb⟩ = (freeM r ⟨o, rd, tb⟩ ++ (if rd.isNone then [("open" : Str)] else [("close" : Str)])).map (dMv r ⟨o, rd, tb⟩) ++ [.tup [.str "pass", dS (passM r ⟨o, rd, tb⟩)]] := by
      unfold movesM
      rw [deeds_free, List.map_append, ← ep]
      rfl
    have hl : ((freeM r ⟨o, rd, tb⟩ ++ (if rd.isNone then [("open" : Str)] else [("close" : Str)])).map (dMv r ⟨o, rd, tb⟩)).length ≤ 10 := by
      rw [List.length_map, List.length_append]
      have h1 := free_len r ⟨o, rd, tb⟩
      have h2 : (if rd.isNone then [("open" : Str)] else [("close" : Str)]).length ≤ 1 := by split <;> (show (_ : Nat) ≤ 1; simp)
      omega
    refine bb_one (ss_ret (pd_catL (pd_v 5) (pd_lst (ad_cons (pd_tup (ad_cons pd_str (ad_cons (pd_call D_law_passed hr pass0 (ad_cons (pd_v 0) (ad_cons (pd_v 1) ad_nil)) ⟨r, ⟨o, rd, tb⟩, rfl, okr, rfl⟩) ad_nil))) ad_nil)) (by show _ + 1 ≤ 1000; omega)) ?_)
    rw [el]

/-! a drawn state -/
def ageM (i : Int) : Option Int := if i = 0 then none else some (i - 1)
def anyM (ns : List Int) (at_ n : Int) : SR :=
  let sd := lawN ns at_
  let mr := lawN ns (at_ + 1)
  ⟨if mr % 5 > 0 then some (ageM (sd % (n + 1)), ageM (sd / 16 % (n + 1))) else none, if mr / 5 % 3 > 0 then some (sd / 300 % n, decide (sd / 3000 % 2 = 0)) else none, mr / 15 % (n + 1)⟩
theorem any_ok {r : Wr} (ok : r.Ok) (ns : List Int) (at_ : Int) : (anyM ns at_ r.size).Ok r := by
  have hs := R_pos ok
  have ag : ∀ (k : Int), OAg r (ageM (k % (r.size + 1))) := fun k a h => by
    have h0 := Int.emod_nonneg k (show r.size + 1 ≠ 0 by omega)
    have h1 := Int.emod_lt_of_pos k (show 0 < r.size + 1 by omega)
    unfold ageM at h
    split at h
    · cases h
    · cases h
      exact ⟨by omega, by omega⟩
  refine ⟨fun w k h => ?_, fun p b h => ?_, ?_, ?_⟩
  · have h' : (if lawN ns (at_ + 1) % 5 > 0 then some (ageM (lawN ns at_ % (r.size + 1)), ageM (lawN ns at_ / 16 % (r.size + 1))) else none) = some (w, k) := h
    split at h'
    · cases h'
      exact ⟨ag _, ag _⟩
    · cases h'
  · have h' : (if lawN ns (at_ + 1) / 5 % 3 > 0 then some (lawN ns at_ / 300 % r.size, decide (lawN ns at_ / 3000 % 2 = 0)) else none) = some (p, b) := h
    split at h'
    · cases h'
      have h0 := Int.emod_nonneg (lawN ns at_ / 300) (show r.size ≠ 0 by omega)
      have h1 := Int.emod_lt_of_pos (lawN ns at_ / 300) hs
      exact ⟨h0, by omega⟩
    · cases h'
  · exact Int.emod_nonneg _ (by omega)
  · have := Int.emod_lt_of_pos (lawN ns (at_ + 1) / 15) (show 0 < r.size + 1 by omega)
    show lawN ns (at_ + 1) / 15 % (r.size + 1) ≤ r.size
    omega
theorem ages_get {n : Int} {i : Int} (h0 : 0 ≤ i) (h1 : i ≤ n) : (Dx.non :: (List.range n.toNat).map fun (i : Nat) => Dx.int (i : Int))[i.toNat]? = some (optD (ageM i)) := by
  unfold ageM
  by_cases h : i = 0
  · subst h
    rfl
  · rw [if_neg h]
    obtain ⟨m, hm⟩ : ∃ m : Nat, i.toNat = m + 1 := ⟨i.toNat - 1, by omega⟩
    rw [hm, List.getElem?_cons_succ, List.getElem?_map, List.getElem?_range (by omega)]
    show some (Dx.int (m : Int)) = some (Dx.int (i - 1))
    rw [show (m : Int) = i - 1 by omega]
def R_law_any_state (ds : List Dx) (d : Dx) : Prop := ∃ (ns : List Int) (i n : Int), ds = [.scr ns, .int i, .int n] ∧ (n = 4 ∨ n = 6) ∧ d = dS (anyM ns i n)
theorem ok_law_any_state (Fn : Fun K "_law_any_state" "_law_any_state" s_law_any_state f fd) (T : Tx K mg C) (D_law_number : Df P w K mg base CX0 1 "_law_number" ["_law_script", "_law_index"] (SpF K C R_law_number)) : FnOk P w K mg base CX0 2 f fd ["_law_script", "_law_at", "_law_size"] (SpF K C R_law_any_state) := by
  refine Fun.okD Fn c_law_any_state ?_ ?_
  · rintro ds d ⟨n, i, m, rfl, _, rfl⟩; rfl
  · rintro cdv A outer s H E G0 H0 ds d hr ⟨ns, i, n, rfl, hn, rfl⟩
    refine bb_cons (ss_par 3 4 rfl c_law_any_state.nd (ad_cons (pd_intI T.f_int (pd_call D_law_number hr pass0 (ad_cons (pd_v 0) (ad_cons (pd_v 1) ad_nil)) ⟨ns, i, rfl, rfl⟩)) (ad_cons (pd_intI T.f_int (pd_call D_law_number hr pass0 (ad_cons (pd_v 0) (ad_cons (pd_add (pd_v 1) pd_int) ad_nil)) ⟨ns, i + 1, rfl, rfl⟩)) ad_nil)) ?_)
    show BB _ _ [some (.d (.scr ns)), some (.d (.int i)), some (.d (.int n)), some (.d (.int (lawN ns i))), some (.d (.int (lawN ns (i + 1)))), none, none, none] _ _ _
    unfold anyM
    generalize lawN ns i = sd
    generalize lawN ns (i + 1) = mr
    have n0 : 0 < n := by rcases hn with rfl | rfl <;> decide
    have n1 : n ≤ 6 := by rcases hn with rfl | rfl <;> decide
    have p : ∀ k m : Int, 0 < m → 0 ≤ k % m ∧ k % m < m := fun k m h => ⟨Int.emod_nonneg _ (by omega), Int.emod_lt_of_pos _ h⟩
    refine bb_cons (ss_set 5 c_law_any_state.nd (pd_catL (ds := [.non]) (pd_lst (ad_cons pd_non ad_nil)) (pd_listRg T.f_list T.f_range rfl (pd_v 2) (by omega) (by omega)) (by
      rw [List.length_map, List.length_range]
      show 1 + _ ≤ 1000
      omega)) ?_)
    have sz : (Dx.lst ([Dx.non] ++ (List.range n.toNat).map fun (i : Nat) => Dx.int (i : Int))).sz = some (n.toNat + 1) := by
      show some ([Dx.non] ++ (List.range n.toNat).map fun (i : Nat) => Dx.int (i : Int)).length = _
      rw [List.length_append, List.length_map, List.length_range]
      exact congrArg some (Nat.add_comm _ _)
    have ln : ((n.toNat + 1 : Nat) : Int) = n + 1 := by omega
    have ix : ∀ k : Int, ([Dx.non] ++ (List.range n.toNat).map fun (i : Nat) => Dx.int (i : Int))[(k % ((n.toNat + 1 : Nat) : Int)).toNat]? = some (optD (ageM (k % (n + 1)))) := fun k => by
      rw [ln]
      have := p k (n + 1) (by omega)
      exact ages_get this.1 (by omega)
    have l0 : (0 : Int) < ((n.toNat + 1 : Nat) : Int) := by omega
    refine bb_cons (ss_set 6 c_law_any_state.nd (pd_tup (ad_cons (pd_ix (d := optD (ageM (sd % (n + 1)))) (pd_v 5) (pd_mod (pd_intI T.f_int (pd_v 3)) (pd_len T.f_len (pd_v 5) sz) l0) (.inr rfl) (ix _) (p _ _ l0).1) (ad_cons (pd_ix (d := optD (ageM (sd / 16 % (n + 1)))) (pd_v 5) (pd_mod (pd_intI T.f_int (pd_fdiv (pd_v 3) pd_int ⟨by decide, by decide⟩)) (pd_len T.f_len (pd_v 5) sz) l0) (.inr rfl) (ix _) (p _ _ l0).1) ad_nil))) ?_)
    refine bb_cons (ss_set 7 c_law_any_state.nd (d := .tup [.int (sd / 300 % n), .bl (decide (sd / 3000 % 2 = 0))]) (pd_tup (ad_cons (pd_mod (pd_intI T.f_int (pd_fdiv (pd_v 3) pd_int ⟨by decide, by decide⟩)) (pd_v 2) n0) (ad_cons ?_ ad_nil))) ?_)
    · have e : decide (sd / 3000 % 2 = 0) = decide (V.int (sd / 3000 % 2) = V.int 0) := decide_eq_decide.mpr ⟨fun h => congrArg V.int h, fun h => V.int.inj h⟩
      rw [e]
      exact pd_eq (pd_mod (pd_intI T.f_int (pd_fdiv (pd_v 3) pd_int ⟨by decide, by decide⟩)) pd_int (by decide)) pd_int
    refine bb_one (ss_ret (d := .tup [dRow (if mr % 5 > 0 then some (ageM (sd % (n + 1)), ageM (sd / 16 % (n + 1))) else none), dRd (if mr / 5 % 3 > 0 then some (sd / 300 % n, decide (sd / 3000 % 2 = 0)) else none), .int (mr / 15 % (n + 1))]) (pd_tup (ad_cons (pd_if (td_gt (pd_mod (pd_intI T.f_int (pd_v 4)) pd_int (by decide)) pd_int) (fun h => ?_) (fun h => ?_)) (ad_cons (pd_if (td_gt (pd_mod (pd_intI T.f_int (pd_fdiv (pd_v 4) pd_int ⟨by decide, by decide⟩)) pd_int (by decide)) pd_int) (fun h => ?_) (fun h => ?_)) (ad_cons (pd_mod (pd_intI T.f_int (pd_fdiv (pd_v 4) pd_int ⟨by decide, by decide⟩)) (pd_add (pd_v 2) pd_int) (by omega)) ad_nil)))) rfl)
    · rw [if_pos (of_decide_eq_true h)]
      exact pd_v 6
    · rw [if_neg (of_decide_eq_false h)]
      exact pd_non
    · rw [if_pos (of_decide_eq_true h)]
      exact pd_v 7
    · rw [if_neg (of_decide_eq_false h)]
      exact pd_non
end
end Lap
set_option maxHeartbeats 4000000
/-! The law's defs, third part: what is right of a state, what is refused. -/
namespace Lap
open PySem PySem.Spec L2
open PyProof.Rows hiding St
/-! ### plain laws -/
def sixS : List Str := ["tick", "write", "strike", "open", "close", "pass"]
theorem deeds_six {r : Wr} {s : SR} {k : Str} (h : k ∈ deedsM r s) : k ∈ sixS := by
  rw [deedsM_eq] at h
  simp only [List.mem_append, mem_pick, List.mem_singleton] at h
  unfold sixS
  simp only [List.mem_cons]
  rcases h with (((((h | h) | h) | h) | h) | h)
  · exact .inl h.2
  · exact .inr (.inl h.2)
  · exact .inr (.inr (.inl h.2))
  · exact .inr (.inr (.inr (.inl h.2)))
  · exact .inr (.inr (.inr (.inr (.inl h.2))))
  · exact .inr (.inr (.inr (.inr (.inr (.inl h)))))
theorem deeds_len (r : Wr) (s : SR) : (deedsM r s).length ≤ 6 := by
  rw [deeds_free, List.length_append, List.length_append]
  have h1 := free_len r s
  have h2 : (if s.rd.isNone then [("open" : Str)] else [("close" : Str)]).length ≤ 1 := by split <;> (show (_ : Nat) ≤ 1; simp)
  have h3 : [("pass" : Str)].length = 1 := rfl
  omega
theorem six_ok : ∀ k, k ∈ sixS → PyData.strOk k = true := by
  have : sixS.all PyData.strOk = true := by decide +kernel
  exact fun k h => List.all_eq_true.mp this k h
theorem oks_str {n : Nat} : ∀ {l : List Str}, (∀ k, k ∈ l → PyData.strOk k = true) → Dx.oks n (l.map Dx.str) = true
  | [], _ => by simp [Dx.oks]
  | k :: l, h => by
    have := oks_str (n := n) (l := l) fun k hk => h k (.tail _ hk)
    simp [Dx.oks, Dx.ok, h k (.head _), this]
theorem ok_deedsD (r : Wr) (s : SR) : Dx.ok 1 (.lst ((deedsM r s).map Dx.str)) = true := by
  have := oks_str (n := 0) fun k hk => six_ok k (deeds_six (r := r) (s := s) hk)
  simpa [Dx.ok] using this
theorem ok_opt (o : Option Int) (n : Nat) : Dx.ok n (optD o) = true := by cases o <;> simp [optD, Dx.ok]
theorem ok_dS (s : SR) : Dx.ok 2 (dS s) = true := by
  obtain ⟨o, rd, tb⟩ := s
  have h1 : Dx.ok 1 (dRow o) = true := by
    rcases o with _ | ⟨a, b⟩
    · simp [dRow, Dx.ok]
    · simp [dRow, Dx.ok, Dx.oks, ok_opt]
  have h2 : Dx.ok 1 (dRd rd) = true := by
    rcases rd with _ | ⟨a, b⟩
    · simp [dRd, Dx.ok]
    · simp [dRd, Dx.ok, Dx.oks]
  simp [dS, Dx.ok, Dx.oks, h1, h2]
theorem oks_dS {l : List SR} : Dx.oks 2 (l.map dS) = true := by
  induction l with
  | nil => simp [Dx.oks]
  | cons s l ih => simp [Dx.oks, ok_dS, ih]
/-- a state stays one -/
theorem done_ok {r : Wr} (ok : r.Ok) {s : SR} (hs : s.Ok r) (k : Str) : (doneM r s k).Ok r := by
  obtain ⟨o, rd, tb⟩ := s
  obtain ⟨ho, hd, t0, t1⟩ := hs
  have sz := R_pos ok
  have t0 : 0 ≤ tb := t0
  have t1 : tb ≤ r.size := t1
  have ag : ∀ a : Int, Ag r ((a + 1) % r.size) := fun a => by
    have h0 := Int.emod_nonneg (a + 1) (show r.size ≠ 0 by omega)
    have h1 := Int.emod_lt_of_pos (a + 1) sz
    exact ⟨h0, by omega⟩
  have z0 : Ag r 0 := ⟨Int.le_refl _, by omega⟩
  have oN : ∀ x : Option Int, OAg r (olderM r x) := fun x a h => by
    cases x with
    | none => cases h
    | some b =>
      have : (b + 1) % r.size = a := Option.some.inj h
      rw [← this]
      exact ag b
  have dN : RdOk r (rdN r rd) := fun p b h => by
    rcases rd with _ | ⟨q, c⟩
    · cases h
    · cases hc : r.cut with
      | none =>
        have e : rdN r (some (q, c)) = some ((q + 1) % r.size, c) := by unfold rdN; rw [hc]
        rw [e] at h
        cases h
        exact ag q
      | some m =>
        have e : rdN r (some (q, c)) = if m ≤ (q + 1) % r.size then none else some ((q + 1) % r.size, c) := by unfold rdN; rw [hc]
        rw [e] at h
        split at h
        · cases h
        · cases h
          exact ag q
  have tN : 0 ≤ tbN r tb ∧ tbN r tb ≤ r.size := by
    unfold tbN
    split <;> omega
  unfold doneM
  split
  · -- pass
    refine ⟨fun w k' h => ?_, hd, ?_, ?_⟩
    · have h' : rowP r rd o = some (w, k') := h
      rcases o with _ | ⟨a, b⟩
      · cases h'
      · have hab := ho a b rfl
        unfold rowP at h'
        dsimp only at h'
        split at h'
        · cases h'
        · cases a with
          | none =>
            cases h'
            exact hab
          | some a =>
            dsimp only at h'
            split at h'
            · cases h'
              exact ⟨fun _ z => (by cases z), hab.2⟩
            · cases h'
              exact hab
    · show 0 ≤ if mostM r rd < tb then mostM r rd else tb
      have m0 : 0 ≤ mostM r rd := by
        have f0 := ok.2.1.1
        rcases rd with _ | ⟨p, b⟩
        · exact f0
        · show 0 ≤ if r.hold then (if p > r.freeze then p else r.freeze) else r.freeze
          split
          · split <;> omega
          · exact f0
      split <;> omega
    · show (if mostM r rd < tb then mostM r rd else tb) ≤ r.size
      split <;> omega
  · split
    · refine ⟨ho, fun p b h => ?_, t0, t1⟩
      cases h
      exact z0
    · split
      · exact ⟨ho, fun p b h => (by cases h), t0, t1⟩
      · split
        · refine ⟨fun w k' h => ?_, dN, tN.1, tN.2⟩
          cases h
          exact ⟨fun a e => by cases e; exact z0, fun a e => by cases e⟩
        · split
          · refine ⟨fun w k' h => ?_, dN, tN.1, tN.2⟩
            have h' : rowK (rowN r o) = some (w, k') := h
            rcases o with _ | ⟨a, b⟩
            · cases h'
            · cases h'
              exact ⟨oN a, fun a e => by cases e; exact z0⟩
          · refine ⟨fun w k' h => ?_, dN, tN.1, tN.2⟩
            have h' : rowN r o = some (w, k') := h
            rcases o with _ | ⟨a, b⟩
            · cases h'
            · cases h'
              exact ⟨oN a, oN b⟩
theorem s0_ok {r : Wr} (ok : r.Ok) : s0.Ok r := ⟨fun _ _ h => (by cases h), fun _ _ h => (by cases h), Int.le_refl _, Int.le_of_lt (R_pos ok)⟩
section
variable {P : Program} {w : World} {K : PySem.W.Frag} {mg : Str → Option Value} {base : Heap} {C : Addr} {f : Addr} {fd : FuncData} {CB : Addr}
/-! ### what is told of a state is right -/
def gHd : Dx → Option Dx
  | .tup (x :: _) => some x
  | _ => none
def gTrue : Dx → Option Dx := fun _ => some (.bl true)
theorem moves_hd (r : Wr) (s : SR) : (movesM r s).filterMap gHd = (deedsM r s).map Dx.str := by
  unfold movesM
  generalize deedsM r s = l
  induction l with
  | nil => rfl
  | cons k l ih =>
    show Dx.str k :: (l.map (dMv r s)).filterMap gHd = _
    rw [ih]
    rfl
theorem all_true (l : List Dx) : l.filterMap gTrue = (l.map fun _ => true).map Dx.bl := by
  induction l with
  | nil => rfl
  | cons k l ih =>
    show Dx.bl true :: l.filterMap gTrue = _
    rw [ih]
    rfl
theorem all_id (l : List Dx) : (l.map fun _ => true).all id = true := by
  rw [List.all_map]
  exact List.all_eq_true.mpr fun _ _ => rfl
theorem moves_len (r : Wr) (s : SR) : (movesM r s).length ≤ 6 := by
  unfold movesM
  rw [List.length_map]
  exact deeds_len r s
theorem ok_rdSee (r : Wr) (s : SR) (n : Nat) : Dx.ok n (rdSee r s) = true := by
  unfold rdSee
  split <;> simp [Dx.ok]
def R_law_state_right (ds : List Dx) (d : Dx) : Prop := ∃ (r : Wr) (s : SR), ds = [.wh r, dR r, dS s] ∧ r.Ok ∧ s.Ok r ∧ d = .bl true
theorem ok_law_state_right (Fn : Fun K "_law_state_right" "_law_state_right" s_law_state_right f fd) (T : Tx K mg C) (D_law_moves : Df P w K mg base CX0 3 "_law_moves" ["_law_rules_here", "_law_state"] (SpF K C R_law_moves)) (D_law_sees : Df P w K mg base CX0 2 "_law_sees" ["_law_rules_here", "_law_row", "_law_picture"] (SpF K C R_law_sees))
    (D_deeds : Df P w K mg base CX0 7 "deeds" ["wheel", "state"] (SpF K C R_deeds)) (D_sights : Df P w K mg base CX0 7 "sights" ["wheel", "state"] (SpF K C R_sights)) (D_after : Df P w K mg base CX0 7 "after" ["wheel", "state", "deed"] (SpF K C R_after)) :
    FnOk P w K mg base CX0 8 f fd ["_law_wheel", "_law_rules_here", "_law_state"] (SpF K C R_law_state_right) := by
  refine Fun.okD Fn c_law_state_right ?_ ?_
  · rintro ds d ⟨r, s, rfl, _, _, rfl⟩; rfl
  · rintro cdv A outer s H E G0 H0 ds d hr ⟨r, ⟨o, rd, tb⟩, rfl, okr, oks, rfl⟩
    have hu : (BX P w K mg base n_law_state_right "_law_state_right" s_law_state_right f cdv A outer s H E).A.units + 64 < cLine := hr.units
    refine bb_cons (ss_set 3 c_law_state_right.nd (pd_call D_law_moves hr pass0 (ad_cons (pd_v 1) (ad_cons (pd_v 2) ad_nil)) ⟨r, ⟨o, rd, tb⟩, rfl, okr, oks, rfl⟩) ?_)
    refine bb_cons (ss_if (td_neD (n := 1) (d := .lst ((deedsM r ⟨o, rd, tb⟩).map Dx.str)) hu (pd_call D_deeds hr pass0 (ad_cons (pd_v 0) (ad_cons (pd_v 2) ad_nil)) ⟨r, ⟨o, rd, tb⟩, rfl, oks, rfl⟩) ?_ (ok_deedsD _ _)) (fun h => by cases h) (fun h => bb_nil ?_))
    · rw [← moves_hd]
      refine pd_lc [("_law_row", 5)] gHd (ds := movesM r ⟨o, rd, tb⟩) rfl c_law_state_right.nd (blkOk_by (N := n_law_state_right) (sc := defScope s_law_state_right) (by decide +kernel)) (pl_seq (pd_v 3) (.inr rfl)) (Nat.le_trans (moves_len _ _) (by decide)) fun d hd => ?_
      obtain ⟨k, _, rfl⟩ := List.mem_map.mp hd
      exact ⟨_, true, fun s H C cl fp => gd_name 5 c_law_state_right.nd, fun s H C cl fp => tds_nil, fun _ => ⟨.str k, rfl, fun s H C cl fp => pd_tx (pd_v 5) pd_int⟩, fun h => by cases h⟩
    refine bb_cons (ss_set 4 c_law_state_right.nd (d := rdSee r ⟨o, rd, tb⟩) ?_ ?_)
    · rcases rd with _ | ⟨p, b⟩
      · exact pd_if (td_isN (pd_tx (d := .non) (pd_v 2) pd_int)) (fun h => pd_non) (fun h => by cases h)
      · exact pd_if (td_isN (pd_tx (d := dRd (some (p, b))) (pd_v 2) pd_int)) (fun h => by cases h) (fun h => (pd_call D_law_sees hr pass0 (ad_cons (pd_v 1) (ad_cons (pd_tx (d := dRow o) (pd_v 2) pd_int) (ad_cons (pd_tx (d := .int p) (pd_tx (d := dRd (some (p, b))) (pd_v 2) pd_int) pd_int) ad_nil))) ⟨r, o, p, rfl, okr, rfl⟩))
    refine bb_cons (ss_if (td_neD (n := 2) (d := .tup [rdSee r ⟨o, rd, tb⟩, .bl (seesM r o 0)]) hu (pd_call D_sights hr pass0 (ad_cons (pd_v 0) (ad_cons (pd_v 2) ad_nil)) ⟨r, ⟨o, rd, tb⟩, rfl, okr, oks, rfl⟩) (pd_tup (ad_cons (pd_v 4) (ad_cons (pd_call D_law_sees hr pass0 (ad_cons (pd_v 1) (ad_cons (pd_tx (d := dRow o) (pd_v 2) pd_int) (ad_cons pd_int ad_nil))) ⟨r, o, 0, rfl, okr, rfl⟩) ad_nil))) (by simp [Dx.ok, Dx.oks, ok_rdSee])) (fun h => by cases h) (fun h => bb_nil ?_))
    refine bb_one (ss_ret (pd_all (bs := (movesM r ⟨o, rd, tb⟩).map fun _ => true) T.f_all rfl ?_) (by rw [all_id]))
    rw [← all_true]
    refine pd_lc [("_law_deed", 6), ("_law_late", 7)] gTrue (ds := movesM r ⟨o, rd, tb⟩) rfl c_law_state_right.nd (blkOk_by (N := n_law_state_right) (sc := defScope s_law_state_right) (by decide +kernel)) (pl_seq (pd_v 3) (.inr rfl)) (Nat.le_trans (moves_len _ _) (by decide)) fun d hd => ?_
    obtain ⟨k, hk, rfl⟩ := List.mem_map.mp hd
    exact ⟨_, true, fun s H C cl fp => gd_tup rfl (gds_cons (gd_name 6 c_law_state_right.nd) (gds_cons (gd_name 7 c_law_state_right.nd) gds_nil)), fun s H C cl fp => tds_nil,
      fun _ => ⟨.bl true, rfl, fun s H C cl fp => pd_eqD (n := 2) hu (pd_call D_after hr pass0 (ad_cons (pd_v 0) (ad_cons (pd_v 2) (ad_cons (pd_v 6) ad_nil))) ⟨r, ⟨o, rd, tb⟩, k, rfl, okr, oks, hk, rfl⟩) (pd_v 7) (ok_dS _)⟩, fun h => by cases h⟩
end
end Lap
set_option maxHeartbeats 4000000
/-! The law's defs, fourth part: try. -/
namespace Lap
open PySem PySem.Spec L2
open PyProof.Rows hiding St
section
variable {P : Program} {w : World} {K : PySem.W.Frag} {mg : Str → Option Value} {base : Heap} {C : Addr} {f : Addr} {fd : FuncData} {CB : Addr}
/-- a body that raises nothing -/
theorem ss_try0 {X : Cx} {F : Fm} {Γ : Gm} {body : List Stmt} {h₀ : ExceptHandler} {hs : List ExceptHandler} {pos : Pos} {N : Gm → Prop} {R : Dx → Prop} (h : BB X.nox F Γ body N R) : SS X F Γ (.Try body (h₀ :: hs) [] [] pos) N R := ps_try_thru0 h
theorem bb_go {X : Cx} {F : Fm} {Γ : Gm} {sts : List Stmt} {pins : List (Addr × Obj)} {s : Shared} {σ : L2.St} {G H : Hp} {D : Ends} (I : Inv X pins σ H s) (st : ST X.K F Γ G H σ) (h : BB X F Γ sts (fun _ => False) (fun _ => False)) :
    wpAny (model X.prog X.w) X.A (execs sts X.env) (SP X pins D) X.xe s := h.run pins s σ H D I ⟨G, st, fun _ _ _ _ _ _ z => z.elim, fun _ _ _ _ _ _ z => z.elim⟩
/-- what the law reads out of a BadHistory -/
def badD : V → Dx
  | .int n => .int n
  | _ => .int (-1)
def R_law_bad (ds : List Dx) (d : Dx) : Prop := (∃ x, R_told ds x ∧ d = .non) ∨ ∃ y, H_told ds y ∧ d = badD y
theorem htold_len {ds : List Dx} {y : V} (h : H_told ds y) : ds.length = 2 := by
  obtain ⟨r, h, rfl, _⟩ := h
  rfl
theorem htold_ix {ds : List Dx} {y : V} (h : H_told ds y) : y = .non ∨ ∃ n : Int, y = .int n := by
  obtain ⟨r, h, rfl, _, ⟨k, _, e⟩ | ⟨xs, _, _, _, _, e⟩⟩ := h
  · exact .inl e
  · exact .inr ⟨_, e⟩
theorem ok_law_bad (Fn : Fun K "_law_bad" "_law_bad" s_law_bad f fd) (T : Tx K mg C) (TB : BhR P w K mg base CB) (eB : PySem.W.exmOne K (.ref CB) (.ref CB) = some true) (nI : PySem.W.findIn K (.ref CB) "index" = some none) (D_told : Df P w K mg base CX0 7 "told" ["wheel", "history"] (SpF K C R_told))
    (B_told : Df P w K mg base (L2.CX P w) 7 "told" ["wheel", "history"] (SpH K C CB H_told)) : FnOk P w K mg base CX0 8 f fd ["_law_wheel", "_law_history"] (SpF K C R_law_bad) := by
  refine Fun.okD Fn c_law_bad ?_ ?_
  · rintro ds d (⟨x, ⟨r, h, xs, rfl, _⟩, rfl⟩ | ⟨y, h, rfl⟩)
    · rfl
    · exact htold_len h
  · rintro cdv A outer s H E G0 H0 ds d hr (⟨x, ht, rfl⟩ | ⟨y, ht, rfl⟩)
    · have ht' := ht
      obtain ⟨r, h, xs, rfl, _⟩ := ht'
      refine bb_cons (ss_try0 ?_)
      refine bb_one (ss_expr (pd_call D_told hr pass0 (ad_cons (pd_v 0) (ad_cons (pd_v 1) ad_nil)) ht) ?_)
      exact bb_one (ss_ret pd_non rfl)
    · have ht' := ht
      obtain ⟨r, h, rfl, _⟩ := ht'
      have hix := htold_ix ht
      obtain ⟨E2, hE2⟩ : ∃ E2 : XK, E2 = fun cls d H' => ∃ dd G', cls = .ref CB ∧ d = some dd ∧ Ext4 G0 H0 G' H' ∧ H' dd = some (.xd [("index", y)]) := ⟨_, rfl⟩
      refine bb_cons (ps_imp (ps_try_as (i := 2)
        (tb := fun W D σ H => (∀ cls d σ' H', σ'.length = 3 → E2 cls d H' → W cls d σ' H') ∧ ∃ G, ST K ⟨C, G0, H0⟩ (Γ0 n_law_bad.length [.wh r, h]) G H σ)
        (ts := fun a cls d => tRet (tIf (tTest (tOp (fun x y H Q => y = .non ∧ Q (.bl (decide (x = .non))) H) (tXf a cls d CB "index" (tVar 2)) (tC .non))) (tUn (rU fun i => .int (-i)) (tC (.int 1))) (tXf a cls d CB "index" (tVar 2))))
        (Wout := fun _ _ _ _ => False) rfl rfl c_law_bad.nd rfl rfl ⟨rfl, by decide, Or.inl TB.g⟩ takes0 ?_ ?_) ?_)
      · intro W pn xe tk _
        refine ⟨fun pins s' σ H' D I ⟨hW, st⟩ => ?_⟩
        obtain ⟨G, st⟩ := st
        refine bb_go I st ?_
        exact bb_one (sx_expr (px_callH (E := E2) B_told hr (passes_len tk fun cls d σ' H' hl he => hW cls d σ' H' hl he) (ad_cons (pd_v 0) (ad_cons (pd_v 1) ad_nil)) ht (fun dd G' H' e hd => by rw [hE2]; exact ⟨dd, G', rfl, rfl, e, hd⟩)))
      · intro a oe cls d pn hz hf
        exact pss_one (ps_ret (pe_ifExp (pt_cmpR op_isN (pe_xf TB.xf nI hz hf (pv 2)) pe_non (nomark _)) (pe_un un_neg pe_int) (pe_xf TB.xf nI hz hf (pv 2))))
      · rintro D σ H' ⟨G, st, n, ret⟩
        refine ⟨fun cls d σ' H2 hl he => ?_, G, st⟩
        rw [hE2] at he
        obtain ⟨dd, G', rfl, rfl, e, hd⟩ := he
        refine ⟨true, eB, fun _ a ha => ?_, fun z => by cases z⟩
        have h2 : (σ'.set 2 (some (V.ref a)))[2]? = some (some (V.ref a)) := List.getElem?_set_self (by omega)
        rcases hix with rfl | ⟨m, rfl⟩
        · exact ⟨.ref a, h2, rfl, rfl, dd, _, _, rfl, hd, rfl, rfl, true, by simp, 1, rfl, ret (.int (-1)) (.int (-1)) G' H2 e (.int _) rfl⟩
        · exact ⟨.ref a, h2, rfl, rfl, dd, _, _, rfl, hd, rfl, rfl, false, by simp, .ref a, h2, rfl, rfl, dd, _, _, rfl, hd, rfl, ret (.int m) (.int m) G' H2 e (.int _) rfl⟩
def R_law_is_refused (ds : List Dx) (d : Dx) : Prop := B_after ds ∧ d = .bl true
theorem ok_law_is_refused (Fn : Fun K "_law_is_refused" "_law_is_refused" s_law_is_refused f fd) (T : Tx K mg C) (TB : BdT K mg CB) (eB : PySem.W.exmOne K (.ref CB) (.ref CB) = some true)
    (B_after : Df P w K mg base (L2.CX P w) 7 "after" ["wheel", "state", "deed"] (SpB K C CB B_after)) : FnOk P w K mg base CX0 8 f fd ["_law_wheel", "_law_state", "_law_deed"] (SpF K C R_law_is_refused) := by
  refine Fun.okD Fn c_law_is_refused ?_ ?_
  · rintro ds d ⟨⟨r, s, x, rfl, _⟩, rfl⟩
    rfl
  · rintro cdv A outer s H E G0 H0 ds d hr ⟨ht, rfl⟩
    have ht' := ht
    obtain ⟨r, s', x, rfl, _⟩ := ht'
    obtain ⟨E2, hE2⟩ : ∃ E2 : XK, E2 = fun cls d H' => ∃ G', cls = .ref CB ∧ d = none ∧ Ext4 G0 H0 G' H' := ⟨_, rfl⟩
    refine bb_cons (ps_imp (ps_try_only
      (tb := fun W D σ H => (∀ cls d σ' H', E2 cls d H' → W cls d σ' H') ∧ ∃ G, ST K ⟨C, G0, H0⟩ (Γ0 n_law_is_refused.length [.wh r, dS s', x]) G H σ)
      (ts := fun a cls d => tRet (tC (.bl true)))
      (Wout := fun _ _ _ _ => False) rfl rfl ⟨rfl, by decide, Or.inl TB.g⟩ takes0 ?_ ?_) ?_)
    · intro W pn xe tk _
      refine ⟨fun pins s' σ H' D I ⟨hW, st⟩ => ?_⟩
      obtain ⟨G, st⟩ := st
      refine bb_go I st ?_
      exact bb_one (sx_expr (px_callB (E := E2) B_after hr (passes_len tk fun cls d σ' H' hl he => hW cls d σ' H' he) (ad_cons (pd_v 0) (ad_cons (pd_v 1) (ad_cons (pd_v 2) ad_nil))) ht (fun G' H' e => by rw [hE2]; exact ⟨G', rfl, rfl, e⟩)))
    · intro a oe cls d pn hz hf
      exact pss_one (ps_ret pe_bl)
    · rintro D σ H' ⟨G, st, n, ret⟩
      refine ⟨fun cls d σ' H2 he => ?_, G, st⟩
      rw [hE2] at he
      obtain ⟨G', rfl, rfl, e⟩ := he
      exact ⟨true, eB, fun _ a ha => ret (.bl true) (.bl true) G' H2 e (.bl _) rfl, fun z => by cases z⟩
end
end Lap
set_option maxHeartbeats 4000000
/-! The law itself. -/
namespace Lap
open PySem PySem.Spec L2
open PyProof.Rows hiding St
section
variable {X : Cx} {F : Fm} {Γ : Gm} {a b e : Expr} {pos : Pos} {d : Dx} {ds : List Dx} {N : Gm → Prop} {R : Dx → Prop}
theorem pd_neg {i : Int} (ha : PD X F Γ a (.int i)) : PD X F Γ (.UnaryOp .USub a pos) (.int (-i)) := pe_imp (pe_un un_neg ha) fun σ H Q ⟨G, st, q⟩ => ⟨G, st, fun v G1 H1 e1 dv => by
  cases dv
  exact ⟨i, rfl, q _ G1 H1 e1 (.int _)⟩⟩
/-- != of a list that is not empty and [] -/
theorem td_neCons {n : Nat} (hu : X.A.units + 64 < cLine) (ha : PD X F Γ a (.lst (d :: ds))) (hb : PD X F Γ b (.lst [])) (hk : Dx.ok n (.lst (d :: ds)) = true) (hn : n ≤ 64 := by decide) : TD X F Γ (.Compare a [.NotEq] [b] pos) true :=
  td_cmp (op_neD hu) (nomark _) ha hb fun x y G H Q hx hy s k =>
    ⟨Dx.py (.lst (d :: ds)), Dx.py (.lst []), hx.dp s hk, hy.dp s (n := 1) (by simp [Dx.ok, Dx.oks]), Dx.ok_shaped hk hn, rfl, k _ G H (.refl s) (.bl _)⟩
/-- x, y, z = e, [], [] -/
theorem ss_asgOwn3 (i j k : Nat) {x y z : Str} {px py pz pt : Pos} {kt k2 : Nat} {pt2 pl pl2 : Pos} (hc : X.calm = true) (hN : X.N.Nodup) (ha : PD X F Γ a d) (h : N (((Γ.set i (some (.d d))).set j (some (.own []))).set k (some (.own [])))) (hi : X.N[i]? = some x := by rfl) (hj : X.N[j]? = some y := by rfl) (hk : X.N[k]? = some z := by rfl)
    (hx : Loc X.env.scope x := by first | exact Or.inl rfl | exact Or.inr rfl) (hy : Loc X.env.scope y := by first | exact Or.inl rfl | exact Or.inr rfl) (hz : Loc X.env.scope z := by first | exact Or.inl rfl | exact Or.inr rfl)
    (fx : X.fn x = true ∨ X.env.scope.names.lookup x = some .local := by first | exact .inl rfl | exact .inr rfl) (fy : X.fn y = true ∨ X.env.scope.names.lookup y = some .local := by first | exact .inl rfl | exact .inr rfl) (fz : X.fn z = true ∨ X.env.scope.names.lookup z = some .local := by first | exact .inl rfl | exact .inr rfl)
    (hs : swapsWithSole [.Tuple [.Name x px, .Name y py, .Name z pz] kt pt] (.Tuple [a, .List [] pl, .List [] pl2] k2 pt2) pos.line X.env = pure false := by rfl) (hw : swappedStores [.Tuple [.Name x px, .Name y py, .Name z pz] kt pt] (.Tuple [a, .List [] pl, .List [] pl2] k2 pt2) X.env = pure none := by rfl)
    (h1 : (assignEach [.Tuple [.Name x px, .Name y py, .Name z pz] kt pt] X.env).map (·.2) = [assign (.Tuple [.Name x px, .Name y py, .Name z pz] kt pt) X.env] := by rfl)
    (q1 : starEach [a, .List [] pl, .List [] pl2] X.env = (false, eval a X.env) :: starEach [.List [] pl, .List [] pl2] X.env := by rfl)
    (q2 : starEach [.List [] pl, .List [] pl2] X.env = (false, eval (.List [] pl) X.env) :: starEach [.List [] pl2] X.env := by rfl) (q3 : starEach [.List [] pl2] X.env = (false, eval (.List [] pl2) X.env) :: starEach [] X.env := by rfl)
    (n1 : (assignEach [.Name x px, .Name y py, .Name z pz] X.env).length = 3 := by rfl) (n2 : (assignEach [.Name x px, .Name y py, .Name z pz] X.env).findIdx? (·.1) = none := by rfl)
    (m1 : (assignEach [.Name x px, .Name y py, .Name z pz] X.env).map (·.2) = assign (.Name x px) X.env :: (assignEach [.Name y py, .Name z pz] X.env).map (·.2) := by rfl)
    (m2 : (assignEach [.Name y py, .Name z pz] X.env).map (·.2) = assign (.Name y py) X.env :: (assignEach [.Name z pz] X.env).map (·.2) := by rfl) (m3 : (assignEach [.Name z pz] X.env).map (·.2) = assign (.Name z pz) X.env :: (assignEach [] X.env).map (·.2) := by rfl) :
    SS X F Γ (.Assign [.Tuple [.Name x px, .Name y py, .Name z pz] kt pt] (.Tuple [a, .List [] pl, .List [] pl2] k2 pt2) pos) N R :=
  ps_imp (ps_asg (pe_tup (pa_cons ha (pa_cons (pe_lst pa_nil) (pa_cons (pe_lst pa_nil) pa_nil q3) q2) q1)) (pg_tup hc (pgs_cons (pg_name hN hi hx fx) (pgs_cons (pg_name hN hj hy fy) (pgs_cons (pg_name hN hk hz fz) pgs_nil m3) m2) m1) n1 n2) hs hw h1) fun D σ H ⟨G, st, n, r⟩ => by
    refine ⟨G, st, fun v G1 H1 e1 dv => ⟨Nat.zero_le _, fun p1 hp1 => ⟨Nat.zero_le _, fun p2 hp2 => ⟨sz1000 (by show 3 ≤ 1000; decide), fun p hp => ?_⟩⟩⟩⟩
    refine ⟨p, [v, .ref p1, .ref p2], rfl, SqT.of upd_same, rfl, v, _, rfl, .ref p1, _, rfl, .ref p2, _, rfl, rfl, ?_⟩
    have s1 := (((st.step e1).put (i := i) dv).putOwn (i := j) hp1).putOwn (i := k) hp2
    exact n _ _ G1 _ (s1.step (.own s1.same hp)) e1.g h
end
theorem Le.set {Γ Γ' : Gm} (h : Le Γ Γ') (i : Nat) (o : Option Sl) : Le (Γ.set i o) (Γ'.set i o) := by
  refine ⟨by rw [List.length_set, List.length_set, h.1], fun j s q => ?_⟩
  rcases set_get q with ⟨rfl, e⟩ | ⟨ne, q⟩
  · subst e
    have hj := (List.getElem?_eq_some_iff.mp q).1
    rw [List.length_set, ← h.1] at hj
    exact List.getElem?_set_self hj
  · rw [List.getElem?_set_ne (Ne.symm ne)]
    exact h.2 j s q
theorem le_two {a b : Option Sl} {l : Gm} {n : Nat} (h : l.length = n) : Le (a :: b :: l) (a :: b :: List.replicate n none) := by
  refine ⟨by simp [h], fun i s q => ?_⟩
  rcases i with _ | _ | i
  · exact q
  · exact q
  · have q' : (List.replicate n (none : Option Sl))[i]? = some (some s) := q
    rw [List.getElem?_replicate] at q'
    split at q' <;> cases q'
/-! ### plain laws of histories -/
theorem run_pre (r : Wr) : ∀ (xs ys : List Dx) (s s' : SR), runM r s (xs ++ ys) = some s' → ∃ s2, runM r s xs = some s2
  | [], _, s, _, _ => ⟨s, rfl⟩
  | .str k :: xs, ys, s, s', h => by
    have h' : (if (deedsM r s).contains k then runM r (doneM r s k) (xs ++ ys) else none) = some s' := h
    by_cases c : (deedsM r s).contains k = true
    · rw [if_pos c] at h'
      obtain ⟨s2, e⟩ := run_pre r xs ys _ _ h'
      exact ⟨s2, (if_pos c).trans e⟩
    · rw [if_neg c] at h'
      cases h'
  | .non :: _, _, _, _, h => by cases h
  | .bl _ :: _, _, _, _, h => by cases h
  | .int _ :: _, _, _, _, h => by cases h
  | .tup _ :: _, _, _, _, h => by cases h
  | .lst _ :: _, _, _, _, h => by cases h
  | .scr _ :: _, _, _, _, h => by cases h
  | .rng _ _ :: _, _, _, _, h => by cases h
  | .dic :: _, _, _, _, h => by cases h
  | .wh _ :: _, _, _, _, h => by cases h
  | .raw _ :: _, _, _, _, h => by cases h
theorem run_len (r : Wr) : ∀ (xs : List Dx) (s s' : SR), runM r s xs = some s' → (walkM r s xs).length = xs.length
  | [], _, _, _ => rfl
  | .str k :: xs, s, s', h => by
    have h' : (if (deedsM r s).contains k then runM r (doneM r s k) xs else none) = some s' := h
    show (if (deedsM r s).contains k then doneM r s k :: walkM r (doneM r s k) xs else []).length = xs.length + 1
    by_cases c : (deedsM r s).contains k = true
    · rw [if_pos c] at h'
      rw [if_pos c, List.length_cons, run_len r xs _ _ h']
    · rw [if_neg c] at h'
      cases h'
  | .non :: _, _, _, h => by cases h
  | .bl _ :: _, _, _, h => by cases h
  | .int _ :: _, _, _, h => by cases h
  | .tup _ :: _, _, _, h => by cases h
  | .lst _ :: _, _, _, h => by cases h
  | .scr _ :: _, _, _, h => by cases h
  | .rng _ _ :: _, _, _, h => by cases h
  | .dic :: _, _, _, h => by cases h
  | .wh _ :: _, _, _, h => by cases h
  | .raw _ :: _, _, _, h => by cases h
theorem run_take {r : Wr} {xs : List Dx} {s s' : SR} (h : runM r s xs = some s') (k : Nat) : ∃ s2, runM r s (xs.take k) = some s2 := run_pre r (xs.take k) (xs.drop k) s s' (by rw [List.take_append_drop]; exact h)
theorem walk_take {r : Wr} {xs : List Dx} {s s' : SR} (h : runM r s xs = some s') {k : Nat} (hk : k ≤ xs.length) : (walkM r s xs).take k = walkM r s (xs.take k) := by
  obtain ⟨s2, e⟩ := run_take h k
  have e2 := walk_app r (xs.take k) (xs.drop k) s s2 e
  rw [List.take_append_drop] at e2
  have hl := run_len r _ _ _ e
  rw [List.length_take, Nat.min_eq_left hk] at hl
  rw [e2, List.take_left' hl]
/-- up to the first that is no deed -/
theorem walk_bad {r : Wr} {xs ys : List Dx} {s s' : SR} {x : Dx} (h : runM r s xs = some s') (hx : isD r s' x = false) : (walkM r s (xs ++ x :: ys)).length = xs.length := by
  rw [walk_app r _ _ _ _ h, walk_stop hx, List.append_nil, run_len r _ _ _ h]
def oddL : List Dx := [.str "", .str "Tick", .str "passes", .non, .int 5, .tup [.str "tick"], .lst [.str "pass"], .bl true, .dic]
theorem no_deed {r : Wr} {s : SR} {k : Str} (h : sixS.contains k = false) : isD r s (.str k) = false := by
  show (deedsM r s).contains k = false
  cases hc : (deedsM r s).contains k with
  | false => rfl
  | true =>
    have := List.contains_iff_mem.mpr (deeds_six (List.contains_iff_mem.mp hc))
    rw [h] at this
    cases this
theorem odd_bad (r : Wr) (s : SR) : ∀ x, x ∈ oddL → Fine x ∧ isD r s x = false := by
  have o : ∀ {x : Dx} {A : String}, x.ty = some A → kitB A "str" = some false → (∀ k, x ≠ .str k) → Fine x ∧ isD r s x = false := fun h1 h2 h3 => ⟨.inr ⟨_, h1, h2, h3⟩, isD_no h3⟩
  intro x hx
  rcases List.mem_cons.mp hx with rfl | hx
  · exact ⟨.inl ⟨_, rfl⟩, no_deed (by decide +kernel)⟩
  rcases List.mem_cons.mp hx with rfl | hx
  · exact ⟨.inl ⟨_, rfl⟩, no_deed (by decide +kernel)⟩
  rcases List.mem_cons.mp hx with rfl | hx
  · exact ⟨.inl ⟨_, rfl⟩, no_deed (by decide +kernel)⟩
  rcases List.mem_cons.mp hx with rfl | hx
  · exact o (A := "NoneType") rfl (by decide +kernel) fun k z => by cases z
  rcases List.mem_cons.mp hx with rfl | hx
  · exact o (A := "int") rfl (by decide +kernel) fun k z => by cases z
  rcases List.mem_cons.mp hx with rfl | hx
  · exact o (A := "tuple") rfl (by decide +kernel) fun k z => by cases z
  rcases List.mem_cons.mp hx with rfl | hx
  · exact o (A := "list") rfl (by decide +kernel) fun k z => by cases z
  rcases List.mem_cons.mp hx with rfl | hx
  · exact o (A := "bool") rfl (by decide +kernel) fun k z => by cases z
  rcases List.mem_cons.mp hx with rfl | hx
  · exact o (A := "dict") rfl (by decide +kernel) fun k z => by cases z
  cases hx
/-- the words that are no deeds here -/
def wordsM (r : Wr) (s : SR) : List Str := sixS.filter fun k => !(deedsM r s).contains k
theorem words_bad {r : Wr} {s : SR} {k : Str} (h : k ∈ wordsM r s) : isD r s (.str k) = false := by
  have := (List.mem_filter.mp h).2
  show (deedsM r s).contains k = false
  simpa using this
theorem words_len (r : Wr) (s : SR) : (wordsM r s).length ≤ 6 := List.length_filter_le _ _
theorem words_some (r : Wr) (s : SR) : ∃ k l, wordsM r s = k :: l := by
  have key : ∃ k, k ∈ wordsM r s := by
    have mem : ∀ k, k ∈ sixS → k ∉ deedsM r s → ∃ k, k ∈ wordsM r s := fun k h1 h2 => ⟨k, List.mem_filter.mpr ⟨h1, by simpa using h2⟩⟩
    cases hd : s.rd.isNone with
    | true =>
      refine mem "close" (by unfold sixS; simp) fun h => ?_
      rw [deedsM_eq] at h
      simp only [List.mem_append, mem_pick, List.mem_singleton, hd] at h
      rcases h with (((((h | h) | h) | h) | h) | h)
      · exact absurd h.2 (by decide +kernel)
      · exact absurd h.2 (by decide +kernel)
      · exact absurd h.2 (by decide +kernel)
      · exact absurd h.2 (by decide +kernel)
      · exact absurd h.1 (by decide)
      · exact absurd h (by decide +kernel)
    | false =>
      refine mem "open" (by unfold sixS; simp) fun h => ?_
      rw [deedsM_eq] at h
      simp only [List.mem_append, mem_pick, List.mem_singleton, hd] at h
      rcases h with (((((h | h) | h) | h) | h) | h)
      · exact absurd h.2 (by decide +kernel)
      · exact absurd h.2 (by decide +kernel)
      · exact absurd h.2 (by decide +kernel)
      · exact absurd h.1 (by decide)
      · exact absurd h.2 (by decide +kernel)
      · exact absurd h (by decide +kernel)
  obtain ⟨k, hk⟩ := key
  cases hw : wordsM r s with
  | nil => rw [hw] at hk; cases hk
  | cons k l => exact ⟨k, l, rfl⟩
def gW (r : Wr) (s : SR) : Dx → Option Dx
  | .str k => if (deedsM r s).contains k then none else some (.str k)
  | _ => none
theorem words_eq (r : Wr) (s : SR) : (sixS.map Dx.str).filterMap (gW r s) = (wordsM r s).map Dx.str := by
  unfold wordsM
  generalize sixS = l
  induction l with
  | nil => rfl
  | cons k l ih =>
    rw [List.map_cons, List.filterMap_cons]
    cases hc : (deedsM r s).contains k with
    | true =>
      rw [show gW r s (.str k) = none from if_pos hc, List.filter_cons, hc]
      simpa using ih
    | false =>
      rw [show gW r s (.str k) = some (.str k) from if_neg (by rw [hc]; decide), List.filter_cons, hc]
      simpa using ih
end Lap
set_option maxHeartbeats 8000000
/-! The law itself: the walk. -/
namespace Lap
open PySem PySem.Spec L2
open PyProof.Rows hiding St
section
variable {P : Program} {w : World} {K : PySem.W.Frag} {mg : Str → Option Value} {base : Heap} {C : Addr} {f : Addr} {fd : FuncData} {CB : Addr}
def forBody : Stmt → List Stmt
  | .For _ _ b _ _ => b
  | _ => []
/-- a history of deeds that can be done, the state behind it -/
structure Hist (r : Wr) (k : Nat) (hs : List Str) (s : SR) : Prop where
  len : hs.length = k
  run : runM r s0 (hs.map Dx.str) = some s
  ok : s.Ok r
theorem Hist.fine {r : Wr} {k : Nat} {hs : List Str} {s : SR} (h : Hist r k hs s) : ∀ x, x ∈ hs.map Dx.str → Fine x := fun x hx => by
  obtain ⟨q, _, rfl⟩ := List.mem_map.mp hx
  exact .inl ⟨q, rfl⟩
theorem Hist.step {r : Wr} {k : Nat} {hs : List Str} {s : SR} (h : Hist r k hs s) (okr : r.Ok) {q : Str} (hq : q ∈ deedsM r s) : Hist r (k + 1) (hs ++ [q]) (doneM r s q) ∧ walkM r s0 ((hs ++ [q]).map Dx.str) = walkM r s0 (hs.map Dx.str) ++ [doneM r s q] := by
  have hc : (deedsM r s).contains q = true := List.contains_iff_mem.mpr hq
  refine ⟨⟨by rw [List.length_append, h.len]; rfl, ?_, done_ok okr h.ok q⟩, ?_⟩
  · rw [List.map_append, run_app r _ _ _ _ h.run]
    exact if_pos hc
  · rw [List.map_append, walk_app r _ _ _ _ h.run]
    congr 1
    exact if_pos hc
def R_law (ds : List Dx) (d : Dx) : Prop := ∃ ns : List Int, ds = [.scr ns] ∧ d = .bl true
/-- what the law calls -/
structure LawD (P : Program) (w : World) (K : PySem.W.Frag) (mg : Str → Option Value) (base : Heap) (C : Addr) : Prop where
  first_state : Df P w K mg base CX0 2 "first_state" ["wheel"] (SpF K C R_first_state)
  told : Df P w K mg base CX0 7 "told" ["wheel", "history"] (SpF K C R_told)
  law_number : Df P w K mg base CX0 1 "_law_number" ["_law_script", "_law_index"] (SpF K C R_law_number)
  law_rules : Df P w K mg base CX0 2 "_law_rules" ["_law_script", "_law_at"] (SpF K C R_law_rules)
  law_made : Df P w K mg base CX0 5 "_law_made" ["_law_rules_here"] (SpF K C R_law_made)
  law_moves : Df P w K mg base CX0 3 "_law_moves" ["_law_rules_here", "_law_state"] (SpF K C R_law_moves)
  law_any_state : Df P w K mg base CX0 2 "_law_any_state" ["_law_script", "_law_at", "_law_size"] (SpF K C R_law_any_state)
  law_state_right : Df P w K mg base CX0 8 "_law_state_right" ["_law_wheel", "_law_rules_here", "_law_state"] (SpF K C R_law_state_right)
  law_bad : Df P w K mg base CX0 8 "_law_bad" ["_law_wheel", "_law_history"] (SpF K C R_law_bad)
  law_is_refused : Df P w K mg base CX0 8 "_law_is_refused" ["_law_wheel", "_law_state", "_law_deed"] (SpF K C R_law_is_refused)
/-- the slots in the inner loop -/
abbrev ΓI (ns : List Int) (t : Nat) (r : Wr) (s : SR) (hs : List Str) (o8 o9 o10 o11 : Option Sl) : Gm :=
  [some (.d (.scr ns)), some (.d (.lst oddL)), some (.d (.int (t : Int))), some (.d (dR r)), some (.d (.wh r)), some (.d (dS s)), some (.own (hs.map Dx.str)), some (.own ((walkM r s0 (hs.map Dx.str)).map dS)), o8, o9, o10, o11, none, none, none, none, none, none, none]
/-- .. behind it -/
abbrev ΓJ (ns : List Int) (t : Nat) (r : Wr) (s : SR) (hs : List Str) (o8 o9 o10 o11 : Option Sl) : Gm :=
  [some (.d (.scr ns)), some (.d (.lst oddL)), some (.d (.int (t : Int))), some (.d (dR r)), some (.d (.wh r)), some (.d (dS s)), some (.d (.lst (hs.map Dx.str))), some (.d (.lst ((walkM r s0 (hs.map Dx.str)).map dS))), o8, o9, o10, o11, none, none, none, none, none, none, none]
theorem cm (k j : Int) (h1 : -(2 ^ 64) < k) (h2 : k < 2 ^ 64) : CMul k j := .inl ⟨h1, h2⟩
/-- a step of the inner loop -/
theorem law_step {cdv : Value} {A : Around} {outer : List Env} {s1 : Shared} {H : Hp} {E : XK} {G0 H0 : Hp} (T : Tx K mg C) (D : LawD P w K mg base C) (hr : Room 8 (BX P w K mg base n_law "law" s_law f cdv A outer s1 H E).A) {ns : List Int} {t : Nat} {r : Wr} {s : SR} {hs : List Str} {k : Nat} {o9 o10 o11 : Option Sl} {N : Gm → Prop} {R : Dx → Prop} (okr : r.Ok) (hh : Hist r k hs s) (hk : k < 14)
    (hN : ∀ (hs2 : List Str) (s2 : SR) (o8 o9 o10 o11 : Option Sl), Hist r (k + 1) hs2 s2 → N (ΓI ns t r s2 hs2 o8 o9 o10 o11)) :
    BB (BX P w K mg base n_law "law" s_law f cdv A outer s1 H E) ⟨C, G0, H0⟩ (ΓI ns t r s hs (some (.d (.int (k : Int)))) o9 o10 o11) (forBody ((forBody ((defBody s_law).getD 1 (.Pass ⟨0, 0, 0, 0⟩))).getD 4 (.Pass ⟨0, 0, 0, 0⟩))) N R := by
  have dl := deeds_len r s
  have d0 : 0 < (deedsM r s).length := by rw [deeds_free, List.length_append]; exact Nat.lt_of_lt_of_le (by decide) (Nat.le_add_left _ _)
  have ml : (movesM r s).length = (deedsM r s).length := List.length_map _
  have l0 : (0 : Int) < ((movesM r s).length : Int) := by omega
  have step : ∀ n : Int, ∃ q, q ∈ deedsM r s ∧ (movesM r s)[(n % ((movesM r s).length : Int)).toNat]? = some (dMv r s q) := fun n => by
    have h0 := Int.emod_nonneg n (show ((movesM r s).length : Int) ≠ 0 by omega)
    have h1 := Int.emod_lt_of_pos n l0
    have hi : (n % ((movesM r s).length : Int)).toNat < (deedsM r s).length := by omega
    refine ⟨(deedsM r s)[(n % ((movesM r s).length : Int)).toNat], List.getElem_mem hi, ?_⟩
    show ((deedsM r s).map (dMv r s))[(n % ((movesM r s).length : Int)).toNat]? = _
    rw [List.getElem?_map, List.getElem?_eq_getElem hi]
    rfl
  refine bb_cons (ss_set 9 c_law.nd (pd_call D.law_moves hr pass0 (ad_cons (pd_v 3) (ad_cons (pd_v 5) ad_nil)) ⟨r, s, rfl, okr, hh.ok, rfl⟩) ?_)
  obtain ⟨q, hq, hget⟩ := step (lawN ns (60 * (t : Int) + 2 + (k : Int)))
  have hst := hh.step okr hq
  refine bb_cons (ss_asg (is := [10, 5]) (pd_ix (ds := movesM r s) (d := dMv r s q) (pd_v 9) (pd_mod (pd_intI T.f_int (pd_call D.law_number hr pass0 (ad_cons (pd_v 0) (ad_cons (pd_add (pd_add (pd_mul pd_int (pd_v 2) (cm _ _ (by decide) (by decide))) pd_int) (pd_v 8)) ad_nil)) ⟨ns, _, rfl, rfl⟩)) (pd_len T.f_len (pd_v 9) rfl) l0) (.inr rfl) hget (Int.emod_nonneg _ (by omega))) (gd_tup rfl (gds_cons (gd_name 10 c_law.nd) (gds_cons (gd_name 5 c_law.nd) gds_nil))) ?_)
  have hl : (hs.map Dx.str).length ≤ 1000 := by
    rw [List.length_map, hh.len]
    omega
  have hl2 : ((walkM r s0 (hs.map Dx.str)).map dS).length ≤ 1000 := by
    rw [List.length_map, run_len r _ _ _ hh.run]
    exact hl
  refine bb_cons (ss_append 6 (l := hs.map Dx.str) (pd_v 10) hl ?_)
  refine bb_cons (ss_append 7 (l := (walkM r s0 (hs.map Dx.str)).map dS) (pd_v 5) hl2 ?_)
  refine bb_cons (ss_set 11 c_law.nd (pd_call D.law_any_state hr pass0 (ad_cons (pd_v 0) (ad_cons (pd_add (pd_add (pd_mul pd_int (pd_v 2) (cm _ _ (by decide) (by decide))) pd_int) (pd_mul pd_int (pd_v 8) (cm _ _ (by decide) (by decide)))) (ad_cons (pd_tx (d := .int r.size) (pd_v 3) pd_int) ad_nil))) ⟨ns, _, r.size, rfl, okr.1, rfl⟩) ?_)
  refine bb_one (ss_if (td_w (tw_or (td_not (td_val (pd_call D.law_state_right hr pass0 (ad_cons (pd_v 4) (ad_cons (pd_v 3) (ad_cons (pd_v 5) ad_nil))) ⟨r, doneM r s q, rfl, okr, hst.1.ok, rfl⟩))) (fun _ => tw_or1 (td_not (td_val (pd_call D.law_state_right hr pass0 (ad_cons (pd_v 4) (ad_cons (pd_v 3) (ad_cons (pd_v 11) ad_nil))) ⟨r, anyM ns _ r.size, rfl, okr, any_ok okr ns _, rfl⟩)))))) (fun h => by cases h) (fun _ => bb_nil ?_))
  have fin := hN (hs ++ [q]) (doneM r s q) (some (.d (.int (k : Int)))) (some (.d (.lst (movesM r s)))) (some (.d (.str q))) (some (.d (dS (anyM ns (60 * (t : Int) + 20 + 2 * (k : Int)) r.size)))) hst.1
  rw [show ΓI ns t r (doneM r s q) (hs ++ [q]) _ _ _ _ = [some (.d (.scr ns)), some (.d (.lst oddL)), some (.d (.int (t : Int))), some (.d (dR r)), some (.d (.wh r)), some (.d (dS (doneM r s q))), some (.own (hs.map Dx.str ++ [.str q])), some (.own ((walkM r s0 (hs.map Dx.str)).map dS ++ [dS (doneM r s q)])),
    some (.d (.int (k : Int))), some (.d (.lst (movesM r s))), some (.d (.str q)), some (.d (dS (anyM ns (60 * (t : Int) + 20 + 2 * (k : Int)) r.size))), none, none, none, none, none, none, none] by
      unfold ΓI
      rw [hst.2]
      simp only [List.map_append, List.map_cons, List.map_nil]] at fin
  exact fin
end
end Lap
set_option maxHeartbeats 8000000
/-! The law itself: behind the inner loop, and the whole. -/
namespace Lap
open PySem PySem.Spec L2
open PyProof.Rows hiding St
section
variable {P : Program} {w : World} {K : PySem.W.Frag} {mg : Str → Option Value} {base : Heap} {C : Addr} {f : Addr} {fd : FuncData} {CB : Addr}
theorem ok_one {k : Str} {l : List Str} (h : ∀ x, x ∈ k :: l → PyData.strOk x = true) : Dx.ok 1 (.lst (Dx.str k :: l.map Dx.str)) = true := by
  have := oks_str (n := 0) (l := k :: l) h
  simpa [Dx.ok] using this
/-- behind the inner loop -/
theorem law_rest {cdv : Value} {A : Around} {outer : List Env} {s1 : Shared} {H : Hp} {E : XK} {G0 H0 : Hp} (T : Tx K mg C) (D : LawD P w K mg base C) (hr : Room 8 (BX P w K mg base n_law "law" s_law f cdv A outer s1 H E).A) {ns : List Int} {t : Nat} {r : Wr} {s : SR} {hs : List Str} {o8 o9 o10 o11 : Option Sl} {N : Gm → Prop} {R : Dx → Prop} (okr : r.Ok) (hh : Hist r 14 hs s)
    (hN : ∀ l : Gm, l.length = 17 → N (some (.d (.scr ns)) :: some (.d (.lst oddL)) :: l)) :
    BB (BX P w K mg base n_law "law" s_law f cdv A outer s1 H E) ⟨C, G0, H0⟩ (ΓJ ns t r s hs o8 o9 o10 o11) ((forBody ((defBody s_law).getD 1 (.Pass ⟨0, 0, 0, 0⟩))).drop 5) N R := by
  have hu : (BX P w K mg base n_law "law" s_law f cdv A outer s1 H E).A.units + 64 < cLine := hr.units
  have xl : (hs.map Dx.str).length = 14 := by rw [List.length_map, hh.len]
  have wl : (walkM r s0 (hs.map Dx.str)).length = (hs.map Dx.str).length := run_len r _ _ _ hh.run
  have told : R_told [.wh r, .lst (hs.map Dx.str)] (.lst ((walkM r s0 (hs.map Dx.str)).map dS)) := ⟨r, _, hs.map Dx.str, rfl, .inr rfl, okr, hh.fine, by omega, wl, rfl⟩
  obtain ⟨s5, run5⟩ := run_take hh.run 5
  have told5 : R_told [.wh r, .tup ((hs.map Dx.str).take 5)] (.lst (((walkM r s0 (hs.map Dx.str)).map dS).take 5)) :=
    ⟨r, _, (hs.map Dx.str).take 5, rfl, .inl rfl, okr, fun x hx => hh.fine x (List.mem_of_mem_take hx), by rw [List.length_take]; omega, run_len r _ _ _ run5, by rw [← walk_take hh.run (by omega), List.map_take]⟩
  have kRows : Dx.ok 3 (.lst ((walkM r s0 (hs.map Dx.str)).map dS)) = true := by
    have := oks_dS (l := walkM r s0 (hs.map Dx.str))
    simpa [Dx.ok] using this
  have kRows5 : Dx.ok 3 (.lst (((walkM r s0 (hs.map Dx.str)).map dS).take 5)) = true := by
    rw [← List.map_take]
    have := oks_dS (l := (walkM r s0 (hs.map Dx.str)).take 5)
    simpa [Dx.ok] using this
  refine bb_cons (ss_if (td_w (tw_or (td_neD (n := 3) (d := .lst ((walkM r s0 (hs.map Dx.str)).map dS)) hu (pd_call D.told hr pass0 (ad_cons (pd_v 4) (ad_cons (pd_v 6) ad_nil)) told) (pd_v 7) kRows) (fun _ => tw_or1 (td_neD (n := 3) (d := .lst (((walkM r s0 (hs.map Dx.str)).map dS).take 5)) hu (pd_call D.told hr pass0 (ad_cons (pd_v 4) (ad_cons (pd_tupL T.f_tuple (pd_sliceTo (k := 5) (pd_v 6) pd_int)) ad_nil)) told5) (pd_sliceTo (k := 5) (pd_v 7) pd_int) kRows5)))) (fun h => by cases h) (fun _ => bb_nil ?_))
  -- the words
  refine bb_cons (ss_set 12 c_law.nd (d := .lst ((deedsM r s).map Dx.str)) ?_ ?_)
  · rw [← moves_hd]
    refine pd_lc [("_law_deed", 10), ("_law_late", 17)] gHd (ds := movesM r s) rfl c_law.nd (blkOk_by (N := n_law) (sc := defScope s_law) (by decide +kernel)) (pl_seq (pd_call D.law_moves hr pass0 (ad_cons (pd_v 3) (ad_cons (pd_v 5) ad_nil)) ⟨r, s, rfl, okr, hh.ok, rfl⟩) (.inr rfl)) (Nat.le_trans (moves_len _ _) (by decide)) fun d hd => ?_
    obtain ⟨k, _, rfl⟩ := List.mem_map.mp hd
    exact ⟨_, true, fun s H C cl fp => gd_tup rfl (gds_cons (gd_name 10 c_law.nd) (gds_cons (gd_name 17 c_law.nd) gds_nil)), fun s H C cl fp => tds_nil, fun _ => ⟨.str k, rfl, fun s H C cl fp => pd_v 10⟩, fun h => by cases h⟩
  refine bb_cons (ss_setLc 13 [("_law_word", 18)] (gW r s) (ds := sixS.map Dx.str) rfl c_law.nd (blkOk_by (N := n_law) (sc := defScope s_law) (by decide +kernel)) (pl_seq (pd_tup (ad_cons pd_str (ad_cons pd_str (ad_cons pd_str (ad_cons pd_str (ad_cons pd_str (ad_cons pd_str ad_nil))))))) (.inl rfl)) (by decide) (fun d hd => ?_) ?_ rfl)
  · obtain ⟨k, _, rfl⟩ := List.mem_map.mp hd
    refine ⟨_, !(deedsM r s).contains k, fun s H C cl fp => gd_name 18 c_law.nd, fun _ H C cl fp => tds_one (td_notInS (ns := deedsM r s) (pd_v 18) (pd_v 12) (.inr rfl)), fun h => ⟨.str k, ?_, fun s H C cl fp => pd_v 18⟩, fun h => ?_⟩
    · exact if_neg (by simpa using h)
    · exact if_pos (by simpa using h)
  rw [words_eq]
  have wlen := words_len r s
  refine bb_cons (ss_if (td_not (td_val (pd_all (bs := ((wordsM r s).map Dx.str ++ oddL).map fun _ => true) T.f_all rfl ?_))) (fun h => by rw [all_id] at h; cases h) (fun _ => bb_nil ?_))
  · rw [← all_true]
    refine pd_lc [("_law_word", 18)] gTrue (ds := (wordsM r s).map Dx.str ++ oddL) rfl c_law.nd (blkOk_by (N := n_law) (sc := defScope s_law) (by decide +kernel)) (pl_seq (pd_catL (ds := (wordsM r s).map Dx.str) (es' := oddL) (pd_v 13) (pd_v 1) (by rw [List.length_map]; show _ + 9 ≤ 1000; omega)) (.inr rfl)) (by rw [List.length_append, List.length_map]; show _ + 9 ≤ 1000; omega) fun d hd => ?_
    have hb : Fine d ∧ isD r s d = false := by
      rcases List.mem_append.mp hd with h | h
      · obtain ⟨k, hk, rfl⟩ := List.mem_map.mp h
        exact ⟨.inl ⟨k, rfl⟩, words_bad hk⟩
      · exact odd_bad r s d h
    exact ⟨_, true, fun s H C cl fp => gd_name 18 c_law.nd, fun s H C cl fp => tds_nil, fun _ => ⟨.bl true, rfl, fun _ H C cl fp => pd_call D.law_is_refused hr pass0 (ad_cons (pd_v 4) (ad_cons (pd_v 5) (ad_cons (pd_v 18) ad_nil))) ⟨⟨r, s, d, rfl, hh.ok, hb.1, hb.2⟩, rfl⟩⟩, fun h => by cases h⟩
  refine bb_cons (ss_if (td_notN (da := .non) (pd_call D.law_bad hr pass0 (ad_cons (pd_v 4) (ad_cons (pd_v 6) ad_nil)) (.inl ⟨_, told, rfl⟩))) (fun h => by cases h) (fun _ => bb_nil ?_))
  -- the odd thing
  refine bb_cons (ss_set 14 c_law.nd (pd_intI T.f_int (pd_call D.law_number hr pass0 (ad_cons (pd_v 0) (ad_cons (pd_add (pd_mul pd_int (pd_v 2) (cm _ _ (by decide) (by decide))) pd_int) ad_nil)) ⟨ns, _, rfl, rfl⟩)) ?_)
  show BB _ _ [some (.d (.scr ns)), some (.d (.lst oddL)), some (.d (.int (t : Int))), some (.d (dR r)), some (.d (.wh r)), some (.d (dS s)), some (.d (.lst (hs.map Dx.str))), some (.d (.lst ((walkM r s0 (hs.map Dx.str)).map dS))), o8, o9, o10, o11, some (.d (.lst ((deedsM r s).map Dx.str))), some (.d (.lst ((wordsM r s).map Dx.str))), some (.d (.int (lawN ns (60 * (t : Int) + 55)))), none, none, none, none] _ _ _
  generalize lawN ns (60 * (t : Int) + 55) = sd
  have p9 : 0 ≤ sd % 9 ∧ sd % 9 < 9 := ⟨Int.emod_nonneg _ (by decide), Int.emod_lt_of_pos _ (by decide)⟩
  have p14 : 0 ≤ sd / 9 % 14 ∧ sd / 9 % 14 < 14 := ⟨Int.emod_nonneg _ (by decide), Int.emod_lt_of_pos _ (by decide)⟩
  obtain ⟨m, hm⟩ : ∃ m : Nat, sd / 9 % 14 = (m : Int) := ⟨(sd / 9 % 14).toNat, by omega⟩
  have hm14 : m < 14 := by omega
  obtain ⟨th, hth, hget⟩ : ∃ th, th ∈ oddL ∧ oddL[(sd % 9).toNat]? = some th := by
    have hi : (sd % 9).toNat < oddL.length := by show _ < 9; omega
    exact ⟨oddL[(sd % 9).toNat], List.getElem_mem hi, List.getElem?_eq_getElem hi⟩
  refine bb_cons (ss_par 15 16 (d2 := .int (m : Int)) rfl c_law.nd (ad_cons (pd_ix (ds := oddL) (d := th) (pd_v 1) (pd_mod (pd_intI T.f_int (pd_v 14)) pd_int (by decide)) (.inr rfl) hget p9.1) (ad_cons ?_ ad_nil)) ?_)
  · rw [← hm]
    exact pd_mod (pd_intI T.f_int (pd_fdiv (pd_v 14) pd_int ⟨by decide, by decide⟩)) pd_int (by decide)
  obtain ⟨sm, runm⟩ := run_take hh.run m
  have lm : ((hs.map Dx.str).take m).length = m := by rw [List.length_take]; omega
  have fnon : Fine .non := (odd_bad r s .non (by unfold oddL; simp)).1
  have wlm : (walkM r s0 ((hs.map Dx.str).take m ++ th :: [.non])).length = m := (walk_bad runm (odd_bad r sm th hth).2).trans lm
  have bad1 : H_told [.wh r, .lst ((hs.map Dx.str).take m ++ [th, .non])] (.int (m : Int)) := by
    refine ⟨r, _, rfl, okr, .inr ⟨(hs.map Dx.str).take m ++ [th, .non], .inr rfl, fun x hx => ?_, ?_, ?_, by rw [wlm]⟩⟩
    · rcases List.mem_append.mp hx with h | h
      · exact hh.fine x (List.mem_of_mem_take h)
      · rcases List.mem_cons.mp h with rfl | h
        · exact (odd_bad r s _ hth).1
        · rcases List.mem_cons.mp h with rfl | h
          · exact fnon
          · cases h
    · rw [List.length_append, lm]
      show m + 2 ≤ 100
      omega
    · rw [wlm, List.length_append, lm]
      show m < m + 2
      omega
  refine bb_cons (ss_if (td_w (tw_or (td_ne (da := .int (m : Int)) (db := .int (m : Int)) (pd_call D.law_bad hr pass0 (ad_cons (pd_v 4) (ad_cons (pd_catL (ds := (hs.map Dx.str).take m) (es' := [th, .non]) (pd_sliceTo (k := m) (pd_v 6) (pd_v 16)) (pd_lst (ad_cons (pd_v 15) (ad_cons pd_non ad_nil))) (by rw [lm]; show m + 2 ≤ 1000; omega)) ad_nil)) (.inr ⟨.int (m : Int), bad1, rfl⟩)) (pd_v 16))
    (fun _ => tw_or1 (td_ne (da := .int (-1)) (db := .int (-1)) (pd_call D.law_bad hr pass0 (ad_cons (pd_v 4) (ad_cons pd_str ad_nil)) (.inr ⟨.non, ⟨r, .str "tick", rfl, okr, .inl ⟨_, rfl, rfl⟩⟩, rfl⟩)) (pd_neg pd_int))))) (fun h => by simp at h) (fun _ => bb_nil ?_))
  -- a word that is no deed
  obtain ⟨k0, wr, hw⟩ := words_some r s
  have k0m : k0 ∈ wordsM r s := by rw [hw]; exact .head _
  have wok : ∀ x, x ∈ k0 :: wr → PyData.strOk x = true := fun x hx => by
    rw [← hw] at hx
    exact six_ok x (List.mem_filter.mp hx).1
  rw [hw]
  have wl3 : (walkM r s0 (hs.map Dx.str ++ [.str k0] ++ [.str "pass"])).length = (hs.map Dx.str).length := by
    rw [List.append_assoc]
    exact walk_bad hh.run (words_bad k0m)
  have bad3 : H_told [.wh r, .lst (hs.map Dx.str ++ [.str k0] ++ [.str "pass"])] (.int (((hs.map Dx.str).length : Nat) : Int)) := by
    refine ⟨r, _, rfl, okr, .inr ⟨_, .inr rfl, fun x hx => ?_, ?_, ?_, by rw [wl3]⟩⟩
    · rcases List.mem_append.mp hx with h | h
      · rcases List.mem_append.mp h with h | h
        · exact hh.fine x h
        · rcases List.mem_cons.mp h with rfl | h
          · exact .inl ⟨_, rfl⟩
          · cases h
      · rcases List.mem_cons.mp h with rfl | h
        · exact .inl ⟨_, rfl⟩
        · cases h
    · rw [List.length_append, List.length_append]
      show _ + 1 + 1 ≤ 100
      omega
    · rw [wl3, List.length_append, List.length_append]
      show _ < _ + 1 + 1
      omega
  refine bb_one (ss_if (td_ne (da := .int (((hs.map Dx.str).length : Nat) : Int)) (db := .int (((hs.map Dx.str).length : Nat) : Int)) (pd_call D.law_bad hr pass0 (ad_cons (pd_v 4) (ad_cons (pd_catL (ds := hs.map Dx.str ++ [.str k0]) (es' := [.str "pass"]) (pd_catL (ds := hs.map Dx.str) (es' := [.str k0]) (pd_v 6) (pd_sliceTo (ds := (k0 :: wr).map Dx.str) (k := 1) (pd_v 13) pd_int) (by show _ + 1 ≤ 1000; omega)) (pd_lst (ad_cons pd_str ad_nil)) (by rw [List.length_append]; show _ + 1 + 1 ≤ 1000; omega)) ad_nil)) (.inr ⟨_, bad3, rfl⟩))
    (pd_if (td_neCons (n := 1) hu (pd_v 13) (pd_lst ad_nil) (ok_one wok)) (fun _ => pd_len T.f_len (pd_v 6) rfl) (fun h => by cases h))) (fun h => by simp at h) (fun _ => bb_nil (hN _ rfl)))
/-- the whole -/
theorem ok_law (Fn : Fun K "law" "law" s_law f fd) (T : Tx K mg C) (D : LawD P w K mg base C) : FnOk P w K mg base CX0 9 f fd ["_law_script"] (SpF K C R_law) := by
  refine Fun.okD Fn c_law ?_ ?_
  · rintro ds d ⟨ns, rfl, rfl⟩; rfl
  · rintro cdv A outer s1 H E G0 H0 ds d hr ⟨ns, rfl, rfl⟩
    have hu : (BX P w K mg base n_law "law" s_law f cdv A outer s1 H E).A.units + 64 < cLine := hr.units
    refine bb_cons (ss_set 1 c_law.nd (d := .lst oddL) (pd_lst (ad_cons pd_str (ad_cons pd_str (ad_cons pd_str (ad_cons pd_non (ad_cons pd_int (ad_cons (pd_tup (ad_cons pd_str ad_nil)) (ad_cons (pd_lst (ad_cons pd_str ad_nil)) (ad_cons pd_bl (ad_cons pd_dic ad_nil)))))))))) ?_)
    refine bb_then (fun _ => True) (ss_for (ds := rgD 4) (fun _ Γ => Le Γ (some (.d (.scr ns)) :: some (.d (.lst oddL)) :: List.replicate 17 none)) PassesOwn.never rfl (pl_range1 (n := 4) T.f_range pd_int) (le_two rfl) ?_ (fun _ _ => trivial)) (fun _ _ => bb_one (ss_ret pd_bl rfl))
    intro t d Γ1 hd hle
    obtain ⟨rfl, _⟩ := rgD_get hd
    refine ⟨_, [2], gd_name 2 c_law.nd, bb_weak (Γ' := (some (.d (.scr ns)) :: some (.d (.lst oddL)) :: List.replicate 17 none).set 2 (some (.d (.int (t : Int))))) ?_ (hle.set 2 _)⟩
    refine bb_cons (ss_set 3 c_law.nd (pd_call D.law_rules hr pass0 (ad_cons (pd_v 0) (ad_cons (pd_mul pd_int (pd_v 2) (cm _ _ (by decide) (by decide))) ad_nil)) ⟨ns, 60 * (t : Int), rfl, rfl⟩) ?_)
    have okr := rules_ok ns (60 * (t : Int))
    generalize rulesM ns (60 * (t : Int)) = r at okr ⊢
    refine bb_cons (ss_set 4 c_law.nd (pd_call D.law_made hr pass0 (ad_cons (pd_v 3) ad_nil) ⟨r, rfl, okr, rfl⟩) ?_)
    refine bb_cons (ss_asgOwn3 5 6 7 rfl c_law.nd (pd_call D.first_state hr pass0 (ad_cons (pd_v 4) ad_nil) ⟨r, rfl, rfl⟩) ?_)
    refine bb_cons (ss_if (td_neD (n := 2) (d := dS s0) hu (pd_v 5) (pd_tup (ad_cons pd_non (ad_cons pd_non (ad_cons pd_int ad_nil)))) (ok_dS s0)) (fun h => by cases h) (fun _ => bb_nil ?_))
    refine bb_then (fun Γ => ∃ (hs : List Str) (s : SR) (o8 o9 o10 o11 : Option Sl), Hist r 14 hs s ∧ Γ = ΓI ns t r s hs o8 o9 o10 o11) (ss_for (ds := rgD 14) (fun k Γ => ∃ (hs : List Str) (s : SR) (o8 o9 o10 o11 : Option Sl), Hist r k hs s ∧ Γ = ΓI ns t r s hs o8 o9 o10 o11) PassesOwn.never rfl (pl_range1 (n := 14) T.f_range pd_int)
      ⟨[], s0, none, none, none, none, ⟨rfl, rfl, s0_ok okr⟩, rfl⟩ ?_ ?_) ?_
    · rintro k d Γ2 hd ⟨hs, s, o8, o9, o10, o11, hh, rfl⟩
      obtain ⟨rfl, hk⟩ := rgD_get hd
      refine ⟨_, [8], gd_name 8 c_law.nd, ?_⟩
      exact law_step T D hr okr hh hk fun hs2 s2 p8 p9 p10 p11 h2 => ⟨hs2, s2, p8, p9, p10, p11, h2, rfl⟩
    · intro Γ2 h2
      rw [rgD_length] at h2
      exact h2
    · rintro Γ2 ⟨hs, s, o8, o9, o10, o11, hh, rfl⟩
      refine bb_freeze (i := 6) rfl (bb_freeze (i := 7) rfl ?_)
      exact law_rest (o8 := o8) (o9 := o9) (o10 := o10) (o11 := o11) T D hr okr hh fun l hl => le_two hl
end
end Lap
set_option maxHeartbeats 8000000
/-! What the top has written, and the law from it: printed by gend.py. -/
namespace Lap
open PySem PySem.Spec L2
open PyProof.Rows hiding St
/-- the def named x stands there -/
def Ft (K : PySem.W.Frag) (x : Str) (st : Stmt) : Prop := ∃ (f : Addr) (fd : FuncData), Fun K x x st f fd ∧ PySem.W.nsIn K mainGlobals x = some (some (.ref f))
theorem ft_mk {K : PySem.W.Frag} {x : Str} {st : Stmt} {f : Addr} {oc : Value} {od an : Option Addr} {osl : Array (Option Value)} {kV doc pm cdv ct : Value} (a : PySem.W.nsIn K mainGlobals x = some (some (.ref f))) (l : K.lookup f = some ⟨oc, od, .func (PySem.W.fnOf x x (defArgs st) (defBody st) (defScope st) .none kV doc pm an cdv ct), osl⟩)
    (c : PySem.W.codeIn K cdv x = true) (k : PySem.W.keepIn K (.ref f) = true) : Ft K x st := ⟨f, _, fun_mk (st := st) l c k, a⟩
/-- a tuple of the top, named x -/
def Kt (K : PySem.W.Frag) (x : Str) (vs : List V) : Prop := ∃ (a : Addr) (o : Obj) (its : Array Value) (n : Nat), PySem.W.nsIn K mainGlobals x = some (some (.ref a)) ∧ K.lookup a = some o ∧ o.cls = .type "tuple" ∧ o.data = .seq its n ∧ its.size ≤ sizeLine ∧ Vals vs its.toList
theorem kt_mk {K : PySem.W.Frag} {x : Str} {vs : List V} {a : Addr} {od : Option Addr} {its : Array Value} {n : Nat} {sl : Array (Option Value)} (h : PySem.W.nsIn K mainGlobals x = some (some (.ref a))) (l : K.lookup a = some ⟨.type "tuple", od, .seq its n, sl⟩) (v : Vals vs its.toList) (z : vs.length ≤ 1000) : Kt K x vs :=
  ⟨a, _, its, n, h, l, rfl, rfl, by
    have e1 := v.length
    have e2 : its.toList.length = its.size := Array.length_toList
    exact sz1000 (by omega), v⟩
theorem Kt.dx {K : PySem.W.Frag} {h : Heap} {mg : Str → Option Value} {x : Str} {vs : List V} {ds : List Dx} {C : Addr} (X : K.In h) (G : h.Ns mainGlobals mg) (T : Kt K x vs) (d : ∀ G, DXs K C G vs ds) : ∃ a, mg x = some (.ref a) ∧ ∀ G, DX K C G (.ref a) (.tup ds) := by
  obtain ⟨a, o, its, n, h1, h2, h3, h4, h5, h6⟩ := T
  exact ⟨a, PySem.W.mg_of X G h1, fun G => .tup (.inr ⟨o, its, n, h2, h3, h4, h5, h6⟩) (d G)⟩
/-- what the written part says of Wheel -/
structure WhA (K : PySem.W.Frag) (C fI : Addr) : Prop where
  g : PySem.W.nsIn K mainGlobals "Wheel" = some (some (.ref C))
  pg : PySem.W.plainGet K C Str.empty = true
  hd : PySem.W.hasDictIn K C = true
  po : PySem.W.plainOver K C = true
  sa : PySem.W.findIn K (.ref C) "__setattr__" = some (some (.builtin "object.__setattr__"))
  ha : PySem.W.findIn K (.ref C) "__class__" = some (some (.builtin "object.__class__"))
  hn : PySem.W.specialIn K (.builtin "object.__class__") "__get__" = some (some (.builtin "getset_descriptor.__get__"))
  tk : PySem.W.takesIn K (.builtin "object.__class__") = some true
  mr : PySem.W.mroIn K C (.type "object") = some true
  a1 : PySem.W.findIn K (.ref C) "size" = some none
  a2 : PySem.W.findIn K (.ref C) "freeze" = some none
  a3 : PySem.W.findIn K (.ref C) "stop" = some none
  a4 : PySem.W.findIn K (.ref C) "hold" = some none
  a5 : PySem.W.findIn K (.ref C) "cut" = some none
  mks : PySem.W.makesIn K C = true
  ini : PySem.W.findIn K (.ref C) "__init__" = some (some (.ref fI))
  isf : PySem.W.isFn K (.ref fI) = true
  kC : PySem.W.keepIn K (.ref C) = true
  fn : ∃ fd : FuncData, FunD K "__init__" "Wheel.__init__" (defArgs s_WheelInit) (defBody s_WheelInit) (defScope s_WheelInit) [] [("freeze", .int 1)] fI fd
theorem wi_mk {K : PySem.W.Frag} {fI D : Addr} {oc : Value} {od an : Option Addr} {osl : Array (Option Value)} {doc pm cdv ct u : Value} (l : K.lookup fI = some ⟨oc, od, .func (PySem.W.fnOf "__init__" "Wheel.__init__" (defArgs s_WheelInit) (defBody s_WheelInit) (defScope s_WheelInit) .none (.ref D) doc pm an cdv ct), osl⟩)
    (c : PySem.W.codeIn K cdv "Wheel.__init__" = true) (k : PySem.W.keepIn K (.ref fI) = true) (d : PySem.W.nsIn K D "freeze" = some (some u)) (e : RelV (.int 1) u) :
    ∃ fd : FuncData, FunD K "__init__" "Wheel.__init__" (defArgs s_WheelInit) (defBody s_WheelInit) (defScope s_WheelInit) [] [("freeze", .int 1)] fI fd :=
  ⟨_, ⟨⟨oc, od, _, _, doc, pm, an, cdv, ct, osl, rfl, l, c, .inl ⟨rfl, rfl⟩, .inr ⟨D, rfl, fun q hq => by
    rcases List.mem_cons.mp hq with rfl | hq
    · exact ⟨u, d, e⟩
    · cases hq⟩⟩, k⟩⟩
/-- .. of BadDeed -/
structure BdA (K : PySem.W.Frag) (CB : Addr) : Prop where
  g : PySem.W.nsIn K mainGlobals "BadDeed" = some (some (.ref CB))
  x : PySem.W.excIn K CB [.type "ValueError", .type "Exception", .type "BaseException", .type "object"] "ValueError.__new__" = true
  k : PySem.W.keepIn K (.ref CB) = true
  b : PySem.W.subIn K (.ref CB) (.type "BaseException") = some true
  t : PySem.W.typeIn K (.ref CB) = some (.type "type")
  i : PySem.W.isClsIn K CB = true
  s : PySem.W.subIn K (.ref CB) (.ref CB) = some true
/-- .. of BadHistory -/
structure BhA (P : Program) (K : PySem.W.Frag) (C fI cda cc : Addr) (fd : FuncData) : Prop where
  g : PySem.W.nsIn K mainGlobals "BadHistory" = some (some (.ref C))
  fn : ∃ (oc dV kV doc pm ct : Value) (od an : Option Addr) (osl : Array (Option Value)), fd = PySem.W.ksFn "__init__" "BadHistory.__init__" (defArgs s_BadHistoryInit) (defBody s_BadHistoryInit) (defScope s_BadHistoryInit) dV kV doc pm an (.ref cda) ct cc ∧
    K.lookup fI = some ⟨oc, od, .func fd, osl⟩ ∧ ∃ (T : Addr) (o : Obj) (dv : Value) (n : Nat), dV = .ref T ∧ K.lookup T = some o ∧ o.data = .seq #[dv] n
  cd : PySem.W.codeIn K (.ref cda) "BadHistory.__init__" = true
  code : ∃ (ccl : Value) (cdd : Option Addr) (vs : Array Value) (ccs : Array (Option Value)) (file : Str) (tf : Tok), K.lookup cda = some ⟨ccl, cdd, .fields vs, ccs⟩ ∧ vs[2]? = some (.str file tf) ∧ ((P.main.file : Str) == file) = true
  cell : ∃ (cl : Value) (cld : Option Addr) (csl : Array (Option Value)), K.lookup cc = some ⟨cl, cld, .cell (some (.ref C)), csl⟩
  sub : PySem.W.mroIn K C (.ref C) = some true
  opq : PySem.W.nsIn K cStatics "thirdparty.any" = some none
  sup : PySem.W.ks_superIn K C C "__init__" = some (some (.builtin "ValueError.__init__"))
  sVE : PySem.W.subIn K (.ref C) (.type "ValueError") = some true
  cls : ∃ nm q N bs bm sn sub ab col dd k0 k1 k2 k3 k5, K.lookup C = some (excClassObj nm q C N bs bm true sn sub ab col dd k0 k1 k2 k3 k5 "ValueError.__new__") ∧ PySem.HandSPX.refsVE bm = true
  sa : PySem.W.findIn K (.ref C) "__setattr__" = some (some (.builtin "object.__setattr__"))
  exC : PySem.W.subIn K (.ref C) (.type "BaseException") = some true
  tyC : PySem.W.typeIn K (.ref C) = some (.type "type")
  kC : PySem.W.keepIn K (.ref C) = true
  noI : PySem.W.findIn K (.ref C) "index" = some none
  top : (P.main.scope.names.lookup ("super" : Str)).isSome = false
  ini : PySem.W.findIn K (.ref C) "__init__" = some (some (.ref fI))
  tfn : PySem.W.typeIn K (.ref fI) = some (.type "function")
  ga : PySem.W.findIn K (.ref C) "__getattribute__" = some (some (.builtin "BaseException.__getattribute__"))
  gg : PySem.W.findIn K (.ref C) "__getattr__" = some none
  hdC : PySem.W.hasDictIn K C = true
  i : PySem.W.isClsIn K C = true
  s : PySem.W.subIn K (.ref C) (.ref C) = some true
theorem exm_me {K : PySem.W.Frag} {S : Addr} (h1 : PySem.W.subIn K (.ref S) (.type "BaseException") = some true) (h2 : PySem.W.isClsIn K S = true) (h3 : PySem.W.typeIn K (.ref S) = some (.type "type")) (h4 : PySem.W.subIn K (.ref S) (.ref S) = some true) : PySem.W.exmOne K (.ref S) (.ref S) = some true := by
  unfold PySem.W.exmOne
  rw [h1]
  unfold PySem.W.kitCls
  have h2' : (PySem.W.clsIn K S).isSome = true := h2
  simp only [h2', h3, h4]
  rfl
theorem bh_binds {K : PySem.W.Frag} {P : Program} {C fI cda cc : Addr} {fd : FuncData} (A : BhA P K C fI cda cc fd) : Binds K fd ["self", "index"] [] := by
  obtain ⟨oc, dV, kV, doc, pm, ct, od, an, osl, rfl, lk, T, o, dv, n, rfl, lT, oT⟩ := A.fn
  intro s us X hlen
  rw [List.append_nil] at hlen ⊢
  match us, hlen with
  | [u1, u2], _ =>
    refine BindsTo.of_looks fun M => ?_
    obtain ⟨k, e1, e2⟩ : ∃ k, bindArgs (PySem.W.ksFn "__init__" "BadHistory.__init__" (defArgs s_BadHistoryInit) (defBody s_BadHistoryInit) (defScope s_BadHistoryInit) (.ref T) kV doc pm an (.ref cda) ct cc) ⟨[u1, u2], []⟩ = seqItems? (.ref T) >>= k ∧ k (some #[dv]) = pure ((["self", "index"] : List Str).zip [u1, u2]) := ⟨_, rfl, rfl⟩
    rw [e1]
    exact looks_items X lT oT (.of_pure e2)
/-- all of it -/
structure AllT (P : Program) (K : PySem.W.Frag) : Prop where
  is_whole : Ft K "is_whole" s_is_whole
  all_for : Ft K "all_for" s_all_for
  can_be : Ft K "can_be" s_can_be
  check_wheel : Ft K "check_wheel" s_check_wheel
  before : Ft K "before" s_before
  is_age : Ft K "is_age" s_is_age
  is_age_or_none : Ft K "is_age_or_none" s_is_age_or_none
  is_row : Ft K "is_row" s_is_row
  is_reader : Ft K "is_reader" s_is_reader
  is_state : Ft K "is_state" s_is_state
  check_state : Ft K "check_state" s_check_state
  is_stopped : Ft K "is_stopped" s_is_stopped
  sees : Ft K "sees" s_sees
  is_there : Ft K "is_there" s_is_there
  older : Ft K "older" s_older
  numbered : Ft K "numbered" s_numbered
  is_held : Ft K "is_held" s_is_held
  is_ripe : Ft K "is_ripe" s_is_ripe
  passed : Ft K "passed" s_passed
  deeds_in : Ft K "deeds_in" s_deeds_in
  done : Ft K "done" s_done
  is_deed : Ft K "is_deed" s_is_deed
  walked : Ft K "walked" s_walked
  check_history : Ft K "check_history" s_check_history
  first_state : Ft K "first_state" s_first_state
  deeds : Ft K "deeds" s_deeds
  sights : Ft K "sights" s_sights
  after : Ft K "after" s_after
  told : Ft K "told" s_told
  law_number : Ft K "_law_number" s_law_number
  law_rules : Ft K "_law_rules" s_law_rules
  law_made : Ft K "_law_made" s_law_made
  law_ahead : Ft K "_law_ahead" s_law_ahead
  law_sees : Ft K "_law_sees" s_law_sees
  law_is_shut : Ft K "_law_is_shut" s_law_is_shut
  law_aged : Ft K "_law_aged" s_law_aged
  law_passed : Ft K "_law_passed" s_law_passed
  law_moves : Ft K "_law_moves" s_law_moves
  law_any_state : Ft K "_law_any_state" s_law_any_state
  law_state_right : Ft K "_law_state_right" s_law_state_right
  law_bad : Ft K "_law_bad" s_law_bad
  law_is_refused : Ft K "_law_is_refused" s_law_is_refused
  law : Ft K "law" s_law
  n_isinstance : PySem.W.nsIn K mainGlobals "isinstance" = some none
  n_len : PySem.W.nsIn K mainGlobals "len" = some none
  n_all : PySem.W.nsIn K mainGlobals "all" = some none
  n_max : PySem.W.nsIn K mainGlobals "max" = some none
  n_min : PySem.W.nsIn K mainGlobals "min" = some none
  n_int : PySem.W.nsIn K mainGlobals "int" = some none
  n_sum : PySem.W.nsIn K mainGlobals "sum" = some none
  n_tuple : PySem.W.nsIn K mainGlobals "tuple" = some none
  n_list : PySem.W.nsIn K mainGlobals "list" = some none
  n_range : PySem.W.nsIn K mainGlobals "range" = some none
  n_zip : PySem.W.nsIn K mainGlobals "zip" = some none
  n_str : PySem.W.nsIn K mainGlobals "str" = some none
  n_bool : PySem.W.nsIn K mainGlobals "bool" = some none
  n_super : PySem.W.nsIn K mainGlobals "super" = some none
  SIZES : Kt K "SIZES" [.int 4, .int 6, .int 8]
  RULES : Kt K "RULES" [.str "freeze", .str "stop", .str "hold", .str "cut"]
  DEEDS : Kt K "DEEDS" [.str "tick", .str "write", .str "strike", .str "open", .str "close", .str "pass"]
  START : Kt K "START" [.non, .non, .int 0]
  wh : ∃ C fI, WhA K C fI
  bd : ∃ CB, BdA K CB
  bh : ∃ C fI cda cc fd, BhA P K C fI cda cc fd
theorem df_mk {P : Program} {w : World} {K : PySem.W.Frag} {mg : Str → Option Value} {base h : Heap} {CX : CXT} {k : Nat} {x : Str} {st : Stmt} {ps : List Str} {sp : Sp} (X : K.In h) (G : h.Ns mainGlobals mg) (T : Ft K x st) (ok : ∀ f fd, Fun K x x st f fd → FnOk P w K mg base CX k f fd ps sp) (hb : ∀ f fd, Fun K x x st f fd → Binds K fd ps []) : Df P w K mg base CX k x ps sp := by
  obtain ⟨f, fd, F, a⟩ := T
  exact .mk (ok f fd F) (PySem.W.mg_of X G a) F.kp (hb f fd F)
/-- the promise of the law at a script -/
def spEnd (K : PySem.W.Frag) : Sp := fun vs H Q _ => ∃ (a : Addr) (ns : List Int), vs = [.ref a] ∧ SqL K H a (ns.map V.int) ∧ ∀ H', Q (.bl true) H'
theorem all_mk {P : Program} {w : World} {K : PySem.W.Frag} {h : Heap} {mg : Str → Option Value} {fa : Addr} (X : K.In h) (G : h.Ns mainGlobals mg) (hfa : mg "law" = some (.ref fa)) (A : AllT P K) :
    ∃ fd : FuncData, (∀ (s : Shared) (u : Value), BindsTo s fd ⟨[u], []⟩ [("_law_script", u)]) ∧ ∀ base : Heap, K.In base → base.Ns mainGlobals mg → FnOk P w K mg base CX0 9 fa fd ["_law_script"] (spEnd K) := by
  obtain ⟨fL, fdL, FL, aL⟩ := A.law
  have e := hfa.symm.trans (PySem.W.mg_of X G aL)
  cases e
  have bL := FL.binds (ps := ["_law_script"]) fun _ _ _ _ _ _ us hl => match us, hl with | [_], _ => rfl
  obtain ⟨C, fI, W⟩ := A.wh
  obtain ⟨CB, B⟩ := A.bd
  obtain ⟨CH, fH, cda, cc, fdH, Hh⟩ := A.bh
  refine ⟨fdL, fun s u => ?_, fun base _ _ => ?_⟩
  · obtain ⟨oc, od, kV, doc, pm, an, cdv, ct, osl, rfl, lk, hcd⟩ := FL.ex
    exact .of_eq rfl
  have T : Tx K mg C :=
    { f_isinstance := PySem.W.mg_none_of X G A.n_isinstance
      f_len := PySem.W.mg_none_of X G A.n_len
      f_all := PySem.W.mg_none_of X G A.n_all
      f_max := PySem.W.mg_none_of X G A.n_max
      f_min := PySem.W.mg_none_of X G A.n_min
      f_int := PySem.W.mg_none_of X G A.n_int
      f_sum := PySem.W.mg_none_of X G A.n_sum
      f_tuple := PySem.W.mg_none_of X G A.n_tuple
      f_list := PySem.W.mg_none_of X G A.n_list
      f_range := PySem.W.mg_none_of X G A.n_range
      f_zip := PySem.W.mg_none_of X G A.n_zip
      f_str := PySem.W.mg_none_of X G A.n_str
      f_bool := PySem.W.mg_none_of X G A.n_bool
      wt := { cl := ⟨W.pg, W.hd, W.po, W.sa⟩, ha := W.ha, hn := W.hn, tk := W.tk, mr := W.mr, kt := if_pos (beq_self_eq_true _), a1 := W.a1, a2 := W.a2, a3 := W.a3, a4 := W.a4, a5 := W.a5 }
      mgW := PySem.W.mg_of X G W.g
      k_SIZES := A.SIZES.dx X G fun _ => .cons (.int _) (.cons (.int _) (.cons (.int _) .nil))
      k_RULES := A.RULES.dx X G fun _ => .cons (.str _) (.cons (.str _) (.cons (.str _) (.cons (.str _) .nil)))
      k_DEEDS := A.DEEDS.dx X G fun _ => .cons (.str _) (.cons (.str _) (.cons (.str _) (.cons (.str _) (.cons (.str _) (.cons (.str _) .nil)))))
      k_START := A.START.dx X G fun _ => .cons .non (.cons .non (.cons (.int _) .nil)) }
  have TB : BdT K mg CB := ⟨B.x, B.k, PySem.W.mg_of X G B.g, B.b, B.t⟩
  have TH : BhT P K mg CH fH cda cc fdH :=
    { fn := let ⟨oc, dV, kV, doc, pm, ct, od, an, osl, e1, e2, T, o, dv, n, e3, e4, e5⟩ := Hh.fn; ⟨oc, dV, kV, doc, pm, ct, od, an, osl, e1, e2, T, o, _, n, e3, e4, e5⟩, cd := Hh.cd, code := Hh.code, cell := Hh.cell, cls := Option.isSome_iff_exists.mp (show (PySem.W.clsIn K CH).isSome = true from Hh.i), sub := Hh.sub, opq := Hh.opq, sup := Hh.sup, sVE := Hh.sVE,
      oex := ⟨Hh.cls, Hh.sa, Hh.exC, Hh.tyC, Hh.kC⟩, noI := Hh.noI, mS := PySem.W.mg_none_of X G A.n_super, mT := PySem.W.mg_none_of X G A.n_str, top := Hh.top }
  have TR : BhR P w K mg base CH := ⟨⟨fH, cda, cc, fdH, TH, ok_bh TH, Hh.ini, Hh.tfn, bh_binds Hh⟩, PySem.W.mg_of X G Hh.g, ⟨Hh.ga, Hh.gg, Hh.exC, Hh.hdC⟩⟩
  have eB := exm_me B.b B.i B.t B.s
  have eH := exm_me Hh.exC Hh.i Hh.tyC Hh.s
  have D_is_whole : Df P w K mg base CX0 1 "is_whole" ["value", "low", "high"] (SpF K C R_is_whole) := df_mk X G A.is_whole (fun f fd F => ok_is_whole F T) (fun f fd F => F.binds (ps := ["value", "low", "high"]) fun _ _ _ _ _ _ us hl => match us, hl with | [_, _, _], _ => rfl)
  have D_all_for : Df P w K mg base CX0 1 "all_for" ["size", "name"] (SpF K C R_all_for) := df_mk X G A.all_for (fun f fd F => ok_all_for F T) (fun f fd F => F.binds (ps := ["size", "name"]) fun _ _ _ _ _ _ us hl => match us, hl with | [_, _], _ => rfl)
  have D_can_be : Df P w K mg base CX0 2 "can_be" ["size", "name", "value"] (SpF K C R_can_be) := df_mk X G A.can_be (fun f fd F => ok_can_be F T D_all_for D_is_whole) (fun f fd F => F.binds (ps := ["size", "name", "value"]) fun _ _ _ _ _ _ us hl => match us, hl with | [_, _, _], _ => rfl)
  have D_check_wheel : Df P w K mg base CX0 1 "check_wheel" ["value"] (SpF K C R_check_wheel) := df_mk X G A.check_wheel (fun f fd F => ok_check_wheel F T) (fun f fd F => F.binds (ps := ["value"]) fun _ _ _ _ _ _ us hl => match us, hl with | [_], _ => rfl)
  have D_before : Df P w K mg base CX0 1 "before" ["wheel", "age", "picture"] (SpF K C R_before) := df_mk X G A.before (fun f fd F => ok_before F T) (fun f fd F => F.binds (ps := ["wheel", "age", "picture"]) fun _ _ _ _ _ _ us hl => match us, hl with | [_, _, _], _ => rfl)
  have D_is_age : Df P w K mg base CX0 2 "is_age" ["wheel", "value"] (SpF K C R_is_age) := df_mk X G A.is_age (fun f fd F => ok_is_age F T D_is_whole) (fun f fd F => F.binds (ps := ["wheel", "value"]) fun _ _ _ _ _ _ us hl => match us, hl with | [_, _], _ => rfl)
  have D_is_age_or_none : Df P w K mg base CX0 3 "is_age_or_none" ["wheel", "value"] (SpF K C R_is_age_or_none) := df_mk X G A.is_age_or_none (fun f fd F => ok_is_age_or_none F T D_is_age) (fun f fd F => F.binds (ps := ["wheel", "value"]) fun _ _ _ _ _ _ us hl => match us, hl with | [_, _], _ => rfl)
  have D_is_row : Df P w K mg base CX0 4 "is_row" ["wheel", "value"] (SpF K C R_is_row) := df_mk X G A.is_row (fun f fd F => ok_is_row F T D_is_age_or_none) (fun f fd F => F.binds (ps := ["wheel", "value"]) fun _ _ _ _ _ _ us hl => match us, hl with | [_, _], _ => rfl)
  have D_is_reader : Df P w K mg base CX0 3 "is_reader" ["wheel", "value"] (SpF K C R_is_reader) := df_mk X G A.is_reader (fun f fd F => ok_is_reader F T D_is_age) (fun f fd F => F.binds (ps := ["wheel", "value"]) fun _ _ _ _ _ _ us hl => match us, hl with | [_, _], _ => rfl)
  have D_is_state : Df P w K mg base CX0 5 "is_state" ["wheel", "value"] (SpF K C R_is_state) := df_mk X G A.is_state (fun f fd F => ok_is_state F T D_is_row D_is_reader D_is_whole) (fun f fd F => F.binds (ps := ["wheel", "value"]) fun _ _ _ _ _ _ us hl => match us, hl with | [_, _], _ => rfl)
  have D_check_state : Df P w K mg base CX0 6 "check_state" ["wheel", "state"] (SpF K C R_check_state) := df_mk X G A.check_state (fun f fd F => ok_check_state F T D_check_wheel D_is_state) (fun f fd F => F.binds (ps := ["wheel", "state"]) fun _ _ _ _ _ _ us hl => match us, hl with | [_, _], _ => rfl)
  have D_is_stopped : Df P w K mg base CX0 1 "is_stopped" ["wheel", "state"] (SpF K C R_is_stopped) := df_mk X G A.is_stopped (fun f fd F => ok_is_stopped F T) (fun f fd F => F.binds (ps := ["wheel", "state"]) fun _ _ _ _ _ _ us hl => match us, hl with | [_, _], _ => rfl)
  have D_sees : Df P w K mg base CX0 2 "sees" ["wheel", "row", "picture"] (SpF K C R_sees) := df_mk X G A.sees (fun f fd F => ok_sees F T D_before) (fun f fd F => F.binds (ps := ["wheel", "row", "picture"]) fun _ _ _ _ _ _ us hl => match us, hl with | [_, _, _], _ => rfl)
  have D_is_there : Df P w K mg base CX0 1 "is_there" ["row"] (SpF K C R_is_there) := df_mk X G A.is_there (fun f fd F => ok_is_there F) (fun f fd F => F.binds (ps := ["row"]) fun _ _ _ _ _ _ us hl => match us, hl with | [_], _ => rfl)
  have D_older : Df P w K mg base CX0 1 "older" ["wheel", "age"] (SpF K C R_older) := df_mk X G A.older (fun f fd F => ok_older F T) (fun f fd F => F.binds (ps := ["wheel", "age"]) fun _ _ _ _ _ _ us hl => match us, hl with | [_, _], _ => rfl)
  have D_numbered : Df P w K mg base CX0 2 "numbered" ["wheel", "state"] (SpF K C R_numbered) := df_mk X G A.numbered (fun f fd F => ok_numbered F T D_older) (fun f fd F => F.binds (ps := ["wheel", "state"]) fun _ _ _ _ _ _ us hl => match us, hl with | [_, _], _ => rfl)
  have D_is_held : Df P w K mg base CX0 1 "is_held" ["wheel", "state"] (SpF K C R_is_held) := df_mk X G A.is_held (fun f fd F => ok_is_held F T) (fun f fd F => F.binds (ps := ["wheel", "state"]) fun _ _ _ _ _ _ us hl => match us, hl with | [_, _], _ => rfl)
  have D_is_ripe : Df P w K mg base CX0 2 "is_ripe" ["wheel", "state", "age"] (SpF K C R_is_ripe) := df_mk X G A.is_ripe (fun f fd F => ok_is_ripe F T D_before D_is_held) (fun f fd F => F.binds (ps := ["wheel", "state", "age"]) fun _ _ _ _ _ _ us hl => match us, hl with | [_, _, _], _ => rfl)
  have D_passed : Df P w K mg base CX0 3 "passed" ["wheel", "state"] (SpF K C R_passed) := df_mk X G A.passed (fun f fd F => ok_passed F T D_is_held D_is_ripe) (fun f fd F => F.binds (ps := ["wheel", "state"]) fun _ _ _ _ _ _ us hl => match us, hl with | [_, _], _ => rfl)
  have D_deeds_in : Df P w K mg base CX0 2 "deeds_in" ["wheel", "state"] (SpF K C R_deeds_in) := df_mk X G A.deeds_in (fun f fd F => ok_deeds_in F T D_is_stopped D_is_there) (fun f fd F => F.binds (ps := ["wheel", "state"]) fun _ _ _ _ _ _ us hl => match us, hl with | [_, _], _ => rfl)
  have D_done : Df P w K mg base CX0 4 "done" ["wheel", "state", "deed"] (SpF K C R_done) := df_mk X G A.done (fun f fd F => ok_done F T D_passed D_numbered D_is_there) (fun f fd F => F.binds (ps := ["wheel", "state", "deed"]) fun _ _ _ _ _ _ us hl => match us, hl with | [_, _, _], _ => rfl)
  have D_is_deed : Df P w K mg base CX0 3 "is_deed" ["wheel", "state", "value"] (SpF K C R_is_deed) := df_mk X G A.is_deed (fun f fd F => ok_is_deed F T D_deeds_in) (fun f fd F => F.binds (ps := ["wheel", "state", "value"]) fun _ _ _ _ _ _ us hl => match us, hl with | [_, _, _], _ => rfl)
  have D_walked : Df P w K mg base CX0 5 "walked" ["wheel", "history"] (SpF K C R_walked) := df_mk X G A.walked (fun f fd F => ok_walked F T D_is_deed D_done) (fun f fd F => F.binds (ps := ["wheel", "history"]) fun _ _ _ _ _ _ us hl => match us, hl with | [_, _], _ => rfl)
  have D_check_history : Df P w K mg base CX0 6 "check_history" ["wheel", "history"] (SpF K C R_told) := df_mk X G A.check_history (fun f fd F => ok_check_history F T D_check_wheel D_walked) (fun f fd F => F.binds (ps := ["wheel", "history"]) fun _ _ _ _ _ _ us hl => match us, hl with | [_, _], _ => rfl)
  have X_check_history : Df P w K mg base (L2.CX P w) 6 "check_history" ["wheel", "history"] (SpH K C CH H_told) := df_mk X G A.check_history (fun f fd F => bad_check_history F T TR D_check_wheel D_walked) (fun f fd F => F.binds (ps := ["wheel", "history"]) fun _ _ _ _ _ _ us hl => match us, hl with | [_, _], _ => rfl)
  have D_first_state : Df P w K mg base CX0 2 "first_state" ["wheel"] (SpF K C R_first_state) := df_mk X G A.first_state (fun f fd F => ok_first_state F T D_check_wheel) (fun f fd F => F.binds (ps := ["wheel"]) fun _ _ _ _ _ _ us hl => match us, hl with | [_], _ => rfl)
  have D_deeds : Df P w K mg base CX0 7 "deeds" ["wheel", "state"] (SpF K C R_deeds) := df_mk X G A.deeds (fun f fd F => ok_deeds F T D_check_state D_deeds_in) (fun f fd F => F.binds (ps := ["wheel", "state"]) fun _ _ _ _ _ _ us hl => match us, hl with | [_, _], _ => rfl)
  have D_sights : Df P w K mg base CX0 7 "sights" ["wheel", "state"] (SpF K C R_sights) := df_mk X G A.sights (fun f fd F => ok_sights F T D_check_state D_sees) (fun f fd F => F.binds (ps := ["wheel", "state"]) fun _ _ _ _ _ _ us hl => match us, hl with | [_, _], _ => rfl)
  have D_after : Df P w K mg base CX0 7 "after" ["wheel", "state", "deed"] (SpF K C R_after) := df_mk X G A.after (fun f fd F => ok_after F T D_check_state D_is_deed D_done) (fun f fd F => F.binds (ps := ["wheel", "state", "deed"]) fun _ _ _ _ _ _ us hl => match us, hl with | [_, _, _], _ => rfl)
  have X_after : Df P w K mg base (L2.CX P w) 7 "after" ["wheel", "state", "deed"] (SpB K C CB B_after) := df_mk X G A.after (fun f fd F => bad_after F T TB D_check_state D_is_deed) (fun f fd F => F.binds (ps := ["wheel", "state", "deed"]) fun _ _ _ _ _ _ us hl => match us, hl with | [_, _, _], _ => rfl)
  have D_told : Df P w K mg base CX0 7 "told" ["wheel", "history"] (SpF K C R_told) := df_mk X G A.told (fun f fd F => ok_told F T D_check_history) (fun f fd F => F.binds (ps := ["wheel", "history"]) fun _ _ _ _ _ _ us hl => match us, hl with | [_, _], _ => rfl)
  have X_told : Df P w K mg base (L2.CX P w) 7 "told" ["wheel", "history"] (SpH K C CH H_told) := df_mk X G A.told (fun f fd F => bad_told F T X_check_history) (fun f fd F => F.binds (ps := ["wheel", "history"]) fun _ _ _ _ _ _ us hl => match us, hl with | [_, _], _ => rfl)
  have D_law_number : Df P w K mg base CX0 1 "_law_number" ["_law_script", "_law_index"] (SpF K C R_law_number) := df_mk X G A.law_number (fun f fd F => ok_law_number F T) (fun f fd F => F.binds (ps := ["_law_script", "_law_index"]) fun _ _ _ _ _ _ us hl => match us, hl with | [_, _], _ => rfl)
  have D_law_rules : Df P w K mg base CX0 2 "_law_rules" ["_law_script", "_law_at"] (SpF K C R_law_rules) := df_mk X G A.law_rules (fun f fd F => ok_law_rules F T D_law_number) (fun f fd F => F.binds (ps := ["_law_script", "_law_at"]) fun _ _ _ _ _ _ us hl => match us, hl with | [_, _], _ => rfl)
  obtain ⟨fdI, FI⟩ := W.fn
  obtain ⟨gI, kb⟩ := kbn_w FI (fun z => by cases z)
  have M : MkT P w K mg base C := ⟨fI, fdI, gI, ⟨W.mks, W.ini, W.isf, W.kC⟩, ok_winit FI T D_is_whole D_can_be, kb⟩
  have D_law_made : Df P w K mg base CX0 5 "_law_made" ["_law_rules_here"] (SpF K C R_law_made) := df_mk X G A.law_made (fun f fd F => ok_law_made F T M) (fun f fd F => F.binds (ps := ["_law_rules_here"]) fun _ _ _ _ _ _ us hl => match us, hl with | [_], _ => rfl)
  have D_law_ahead : Df P w K mg base CX0 1 "_law_ahead" ["_law_rules_here", "_law_age", "_law_picture"] (SpF K C R_law_ahead) := df_mk X G A.law_ahead (fun f fd F => ok_law_ahead F T) (fun f fd F => F.binds (ps := ["_law_rules_here", "_law_age", "_law_picture"]) fun _ _ _ _ _ _ us hl => match us, hl with | [_, _, _], _ => rfl)
  have D_law_sees : Df P w K mg base CX0 2 "_law_sees" ["_law_rules_here", "_law_row", "_law_picture"] (SpF K C R_law_sees) := df_mk X G A.law_sees (fun f fd F => ok_law_sees F T D_law_ahead) (fun f fd F => F.binds (ps := ["_law_rules_here", "_law_row", "_law_picture"]) fun _ _ _ _ _ _ us hl => match us, hl with | [_, _, _], _ => rfl)
  have D_law_is_shut : Df P w K mg base CX0 1 "_law_is_shut" ["_law_rules_here", "_law_state"] (SpF K C R_law_is_shut) := df_mk X G A.law_is_shut (fun f fd F => ok_law_is_shut F T) (fun f fd F => F.binds (ps := ["_law_rules_here", "_law_state"]) fun _ _ _ _ _ _ us hl => match us, hl with | [_, _], _ => rfl)
  have D_law_aged : Df P w K mg base CX0 1 "_law_aged" ["_law_rules_here", "_law_state"] (SpF K C R_law_aged) := df_mk X G A.law_aged (fun f fd F => ok_law_aged F T) (fun f fd F => F.binds (ps := ["_law_rules_here", "_law_state"]) fun _ _ _ _ _ _ us hl => match us, hl with | [_, _], _ => rfl)
  have D_law_passed : Df P w K mg base CX0 2 "_law_passed" ["_law_rules_here", "_law_state"] (SpF K C R_law_passed) := df_mk X G A.law_passed (fun f fd F => ok_law_passed F T D_law_ahead) (fun f fd F => F.binds (ps := ["_law_rules_here", "_law_state"]) fun _ _ _ _ _ _ us hl => match us, hl with | [_, _], _ => rfl)
  have D_law_moves : Df P w K mg base CX0 3 "_law_moves" ["_law_rules_here", "_law_state"] (SpF K C R_law_moves) := df_mk X G A.law_moves (fun f fd F => ok_law_moves F T D_law_aged D_law_is_shut D_law_passed) (fun f fd F => F.binds (ps := ["_law_rules_here", "_law_state"]) fun _ _ _ _ _ _ us hl => match us, hl with | [_, _], _ => rfl)
  have D_law_any_state : Df P w K mg base CX0 2 "_law_any_state" ["_law_script", "_law_at", "_law_size"] (SpF K C R_law_any_state) := df_mk X G A.law_any_state (fun f fd F => ok_law_any_state F T D_law_number) (fun f fd F => F.binds (ps := ["_law_script", "_law_at", "_law_size"]) fun _ _ _ _ _ _ us hl => match us, hl with | [_, _, _], _ => rfl)
  have D_law_state_right : Df P w K mg base CX0 8 "_law_state_right" ["_law_wheel", "_law_rules_here", "_law_state"] (SpF K C R_law_state_right) := df_mk X G A.law_state_right (fun f fd F => ok_law_state_right F T D_law_moves D_law_sees D_deeds D_sights D_after) (fun f fd F => F.binds (ps := ["_law_wheel", "_law_rules_here", "_law_state"]) fun _ _ _ _ _ _ us hl => match us, hl with | [_, _, _], _ => rfl)
  have D_law_bad : Df P w K mg base CX0 8 "_law_bad" ["_law_wheel", "_law_history"] (SpF K C R_law_bad) := df_mk X G A.law_bad (fun f fd F => ok_law_bad F T TR eH Hh.noI D_told X_told) (fun f fd F => F.binds (ps := ["_law_wheel", "_law_history"]) fun _ _ _ _ _ _ us hl => match us, hl with | [_, _], _ => rfl)
  have D_law_is_refused : Df P w K mg base CX0 8 "_law_is_refused" ["_law_wheel", "_law_state", "_law_deed"] (SpF K C R_law_is_refused) := df_mk X G A.law_is_refused (fun f fd F => ok_law_is_refused F T TB eB X_after) (fun f fd F => F.binds (ps := ["_law_wheel", "_law_state", "_law_deed"]) fun _ _ _ _ _ _ us hl => match us, hl with | [_, _, _], _ => rfl)
  have D : LawD P w K mg base C := ⟨D_first_state, D_told, D_law_number, D_law_rules, D_law_made, D_law_moves, D_law_any_state, D_law_state_right, D_law_bad, D_law_is_refused⟩
  refine (ok_law FL T D).imp fun vs H Q E h => ?_
  obtain ⟨a, ns, rfl, hs, q⟩ := h
  refine ⟨H, [.scr ns], .bl true, .refl _, .cons (.scr hs) .nil, ⟨ns, rfl, rfl⟩, fun v G' H' _ dv => ?_⟩
  cases dv
  exact q H'
end Lap
set_option maxHeartbeats 8000000
/-! The end: printed by gene.py. -/
namespace Lap
open PySem PySem.Spec L2
open PyProof.Rows hiding St
theorem bh_mk {P : Program} {K : PySem.W.Frag} {C fI cda cc T N : Addr} {oc kV doc pm ct tc dv ccl cl : Value} {od an td cdd cld dd : Option Addr} {osl tsl ccs csl : Array (Option Value)} {tn : Nat} {vs : Array Value} {file nm q : Str} {tf : Tok} {bs bm sub : List Value} {sn : List Str} {ab : Bool} {col : Option Bool} {k0 k1 k2 k3 k5 : Option Value}
    (g : PySem.W.nsIn K mainGlobals "BadHistory" = some (some (.ref C))) (ini : PySem.W.findIn K (.ref C) "__init__" = some (some (.ref fI)))
    (l : K.lookup fI = some ⟨oc, od, .func (PySem.W.ksFn "__init__" "BadHistory.__init__" (defArgs s_BadHistoryInit) (defBody s_BadHistoryInit) (defScope s_BadHistoryInit) (.ref T) kV doc pm an (.ref cda) ct cc), osl⟩)
    (lT : K.lookup T = some ⟨tc, td, .seq #[dv] tn, tsl⟩) (cd : PySem.W.codeIn K (.ref cda) "BadHistory.__init__" = true) (lc : K.lookup cda = some ⟨ccl, cdd, .fields vs, ccs⟩) (hv : vs[2]? = some (.str file tf)) (hf : ((P.main.file : Str) == file) = true)
    (lcc : K.lookup cc = some ⟨cl, cld, .cell (some (.ref C)), csl⟩) (sub' : PySem.W.mroIn K C (.ref C) = some true) (opq : PySem.W.nsIn K cStatics "thirdparty.any" = some none) (sup : PySem.W.ks_superIn K C C "__init__" = some (some (.builtin "ValueError.__init__")))
    (sVE : PySem.W.subIn K (.ref C) (.type "ValueError") = some true) (xL : K.lookup C = some (excClassObj nm q C N bs bm true sn sub ab col dd k0 k1 k2 k3 k5 "ValueError.__new__")) (hbm : PySem.HandSPX.refsVE bm = true)
    (sa : PySem.W.findIn K (.ref C) "__setattr__" = some (some (.builtin "object.__setattr__"))) (exC : PySem.W.subIn K (.ref C) (.type "BaseException") = some true) (tyC : PySem.W.typeIn K (.ref C) = some (.type "type")) (kC : PySem.W.keepIn K (.ref C) = true)
    (noI : PySem.W.findIn K (.ref C) "index" = some none) (top : (P.main.scope.names.lookup ("super" : Str)).isSome = false) (tfn : PySem.W.typeIn K (.ref fI) = some (.type "function"))
    (ga : PySem.W.findIn K (.ref C) "__getattribute__" = some (some (.builtin "BaseException.__getattribute__"))) (gg : PySem.W.findIn K (.ref C) "__getattr__" = some none) (hdC : PySem.W.hasDictIn K C = true) (i : PySem.W.isClsIn K C = true) (s : PySem.W.subIn K (.ref C) (.ref C) = some true) :
    ∃ C fI cda cc fd, BhA P K C fI cda cc fd :=
  ⟨C, fI, cda, cc, _, { g := g, fn := ⟨oc, _, kV, doc, pm, ct, od, an, osl, rfl, l, T, _, dv, tn, rfl, lT, rfl⟩, cd := cd, code := ⟨ccl, cdd, vs, ccs, file, tf, lc, hv, hf⟩, cell := ⟨cl, cld, csl, lcc⟩, sub := sub', opq := opq, sup := sup, sVE := sVE, cls := ⟨nm, q, N, bs, bm, sn, sub, ab, col, dd, k0, k1, k2, k3, k5, xL, hbm⟩, sa := sa, exC := exC, tyC := tyC, kC := kC, noI := noI, top := top, ini := ini, tfn := tfn, ga := ga, gg := gg, hdC := hdC, i := i, s := s }⟩
end Lap
open PySem PySem.W PyProof.Rows
set_option maxHeartbeats 0 in
theorem PySem.Challenge.cw_lapnumbers_k02_whole_states_holds : PySem.Challenge.rw_lapnumbers_k02_whole_states.Holds := by
  w_on; o_law; k_head; (case hw => w_witness2)
  k_fill
  refine L2.walk_of (l := PySem.Challenge.rw_lapnumbers_k02_whole_states) (n := 63) (k := 9) (x := "_law_script") (CX := fun _ => L2.CX0) (sp := fun w => Lap.spEnd _) rfl (by decide) rfl ⟨rfl, by decide, by decide⟩ (fun w h Y => PySem.W.kIn_of Y) ?F (fun _ _ a ns hl _ hS => ⟨a, ns, rfl, hS, fun _ => rfl⟩) (fun _ _ _ _ _ h => h)
  case F =>
    intro w mg fa h KX G hmg
    refine' Lap.all_mk KX G hmg
      { is_whole := Lap.ft_mk ?a_is_whole ?l_is_whole ?c_is_whole ?k_is_whole,
        all_for := Lap.ft_mk ?a_all_for ?l_all_for ?c_all_for ?k_all_for,
        can_be := Lap.ft_mk ?a_can_be ?l_can_be ?c_can_be ?k_can_be,
        check_wheel := Lap.ft_mk ?a_check_wheel ?l_check_wheel ?c_check_wheel ?k_check_wheel,
        before := Lap.ft_mk ?a_before ?l_before ?c_before ?k_before,
        is_age := Lap.ft_mk ?a_is_age ?l_is_age ?c_is_age ?k_is_age,
        is_age_or_none := Lap.ft_mk ?a_is_age_or_none ?l_is_age_or_none ?c_is_age_or_none ?k_is_age_or_none,
        is_row := Lap.ft_mk ?a_is_row ?l_is_row ?c_is_row ?k_is_row,
        is_reader := Lap.ft_mk ?a_is_reader ?l_is_reader ?c_is_reader ?k_is_reader,
        is_state := Lap.ft_mk ?a_is_state ?l_is_state ?c_is_state ?k_is_state,
        check_state := Lap.ft_mk ?a_check_state ?l_check_state ?c_check_state ?k_check_state,
        is_stopped := Lap.ft_mk ?a_is_stopped ?l_is_stopped ?c_is_stopped ?k_is_stopped,
        sees := Lap.ft_mk ?a_sees ?l_sees ?c_sees ?k_sees,
        is_there := Lap.ft_mk ?a_is_there ?l_is_there ?c_is_there ?k_is_there,
        older := Lap.ft_mk ?a_older ?l_older ?c_older ?k_older,
        numbered := Lap.ft_mk ?a_numbered ?l_numbered ?c_numbered ?k_numbered,
        is_held := Lap.ft_mk ?a_is_held ?l_is_held ?c_is_held ?k_is_held,
        is_ripe := Lap.ft_mk ?a_is_ripe ?l_is_ripe ?c_is_ripe ?k_is_ripe,
        passed := Lap.ft_mk ?a_passed ?l_passed ?c_passed ?k_passed,
        deeds_in := Lap.ft_mk ?a_deeds_in ?l_deeds_in ?c_deeds_in ?k_deeds_in,
        done := Lap.ft_mk ?a_done ?l_done ?c_done ?k_done,
        is_deed := Lap.ft_mk ?a_is_deed ?l_is_deed ?c_is_deed ?k_is_deed,
        walked := Lap.ft_mk ?a_walked ?l_walked ?c_walked ?k_walked,
        check_history := Lap.ft_mk ?a_check_history ?l_check_history ?c_check_history ?k_check_history,
        first_state := Lap.ft_mk ?a_first_state ?l_first_state ?c_first_state ?k_first_state,
        deeds := Lap.ft_mk ?a_deeds ?l_deeds ?c_deeds ?k_deeds,
        sights := Lap.ft_mk ?a_sights ?l_sights ?c_sights ?k_sights,
        after := Lap.ft_mk ?a_after ?l_after ?c_after ?k_after,
        told := Lap.ft_mk ?a_told ?l_told ?c_told ?k_told,
        law_number := Lap.ft_mk ?a_law_number ?l_law_number ?c_law_number ?k_law_number,
        law_rules := Lap.ft_mk ?a_law_rules ?l_law_rules ?c_law_rules ?k_law_rules,
        law_made := Lap.ft_mk ?a_law_made ?l_law_made ?c_law_made ?k_law_made,
        law_ahead := Lap.ft_mk ?a_law_ahead ?l_law_ahead ?c_law_ahead ?k_law_ahead,
        law_sees := Lap.ft_mk ?a_law_sees ?l_law_sees ?c_law_sees ?k_law_sees,
        law_is_shut := Lap.ft_mk ?a_law_is_shut ?l_law_is_shut ?c_law_is_shut ?k_law_is_shut,
        law_aged := Lap.ft_mk ?a_law_aged ?l_law_aged ?c_law_aged ?k_law_aged,
        law_passed := Lap.ft_mk ?a_law_passed ?l_law_passed ?c_law_passed ?k_law_passed,
        law_moves := Lap.ft_mk ?a_law_moves ?l_law_moves ?c_law_moves ?k_law_moves,
        law_any_state := Lap.ft_mk ?a_law_any_state ?l_law_any_state ?c_law_any_state ?k_law_any_state,
        law_state_right := Lap.ft_mk ?a_law_state_right ?l_law_state_right ?c_law_state_right ?k_law_state_right,
        law_bad := Lap.ft_mk ?a_law_bad ?l_law_bad ?c_law_bad ?k_law_bad,
        law_is_refused := Lap.ft_mk ?a_law_is_refused ?l_law_is_refused ?c_law_is_refused ?k_law_is_refused,
        law := Lap.ft_mk ?a_law ?l_law ?c_law ?k_law,
        n_isinstance := ?n_isinstance,
        n_len := ?n_len,
        n_all := ?n_all,
        n_max := ?n_max,
        n_min := ?n_min,
        n_int := ?n_int,
        n_sum := ?n_sum,
        n_tuple := ?n_tuple,
        n_list := ?n_list,
        n_range := ?n_range,
        n_zip := ?n_zip,
        n_str := ?n_str,
        n_bool := ?n_bool,
        n_super := ?n_super,
        SIZES := Lap.kt_mk ?a_SIZES ?l_SIZES ?v_SIZES (by decide),
        RULES := Lap.kt_mk ?a_RULES ?l_RULES ?v_RULES (by decide),
        DEEDS := Lap.kt_mk ?a_DEEDS ?l_DEEDS ?v_DEEDS (by decide),
        START := Lap.kt_mk ?a_START ?l_START ?v_START (by decide),
        wh := ⟨_, _, { g := ?w_g, ini := ?w_ini, pg := ?w_pg, hd := ?w_hd, po := ?w_po, sa := ?w_sa, ha := ?w_ha, hn := ?w_hn, tk := ?w_tk, mr := ?w_mr, a1 := ?w_a1, a2 := ?w_a2, a3 := ?w_a3, a4 := ?w_a4, a5 := ?w_a5, mks := ?w_mks, isf := ?w_isf, kC := ?w_kC, fn := Lap.wi_mk ?w_l ?w_c ?w_k ?w_d ?w_e }⟩,
        bd := ⟨_, { g := ?b_g, x := ?b_x, k := ?b_k, b := ?b_b, t := ?b_t, i := ?b_i, s := ?b_s }⟩,
        bh := Lap.bh_mk ?h_g ?h_ini ?h_l ?h_lT ?h_cd ?h_lc ?h_hv ?h_hf ?h_lcc ?h_sub ?h_opq ?h_sup ?h_sVE ?h_xL ?h_hbm ?h_sa ?h_exC ?h_tyC ?h_kC ?h_noI ?h_top ?h_tfn ?h_ga ?h_gg ?h_hdC ?h_i ?h_s }
    (case a_is_whole => k_is); (case l_is_whole => k_is); (case c_is_whole => k_is); (case k_is_whole => k_is)
    (case a_all_for => k_is); (case l_all_for => k_is); (case c_all_for => k_is); (case k_all_for => k_is)
    (case a_can_be => k_is); (case l_can_be => k_is); (case c_can_be => k_is); (case k_can_be => k_is)
    (case a_check_wheel => k_is); (case l_check_wheel => k_is); (case c_check_wheel => k_is); (case k_check_wheel => k_is)
    (case a_before => k_is); (case l_before => k_is); (case c_before => k_is); (case k_before => k_is)
    (case a_is_age => k_is); (case l_is_age => k_is); (case c_is_age => k_is); (case k_is_age => k_is)
    (case a_is_age_or_none => k_is); (case l_is_age_or_none => k_is); (case c_is_age_or_none => k_is); (case k_is_age_or_none => k_is)
    (case a_is_row => k_is); (case l_is_row => k_is); (case c_is_row => k_is); (case k_is_row => k_is)
    (case a_is_reader => k_is); (case l_is_reader => k_is); (case c_is_reader => k_is); (case k_is_reader => k_is)
    (case a_is_state => k_is); (case l_is_state => k_is); (case c_is_state => k_is); (case k_is_state => k_is)
    (case a_check_state => k_is); (case l_check_state => k_is); (case c_check_state => k_is); (case k_check_state => k_is)
    (case a_is_stopped => k_is); (case l_is_stopped => k_is); (case c_is_stopped => k_is); (case k_is_stopped => k_is)
    (case a_sees => k_is); (case l_sees => k_is); (case c_sees => k_is); (case k_sees => k_is)
    (case a_is_there => k_is); (case l_is_there => k_is); (case c_is_there => k_is); (case k_is_there => k_is)
    (case a_older => k_is); (case l_older => k_is); (case c_older => k_is); (case k_older => k_is)
    (case a_numbered => k_is); (case l_numbered => k_is); (case c_numbered => k_is); (case k_numbered => k_is)
    (case a_is_held => k_is); (case l_is_held => k_is); (case c_is_held => k_is); (case k_is_held => k_is)
    (case a_is_ripe => k_is); (case l_is_ripe => k_is); (case c_is_ripe => k_is); (case k_is_ripe => k_is)
    (case a_passed => k_is); (case l_passed => k_is); (case c_passed => k_is); (case k_passed => k_is)
    (case a_deeds_in => k_is); (case l_deeds_in => k_is); (case c_deeds_in => k_is); (case k_deeds_in => k_is)
    (case a_done => k_is); (case l_done => k_is); (case c_done => k_is); (case k_done => k_is)
    (case a_is_deed => k_is); (case l_is_deed => k_is); (case c_is_deed => k_is); (case k_is_deed => k_is)
    (case a_walked => k_is); (case l_walked => k_is); (case c_walked => k_is); (case k_walked => k_is)
    (case a_check_history => k_is); (case l_check_history => k_is); (case c_check_history => k_is); (case k_check_history => k_is)
    (case a_first_state => k_is); (case l_first_state => k_is); (case c_first_state => k_is); (case k_first_state => k_is)
    (case a_deeds => k_is); (case l_deeds => k_is); (case c_deeds => k_is); (case k_deeds => k_is)
    (case a_sights => k_is); (case l_sights => k_is); (case c_sights => k_is); (case k_sights => k_is)
    (case a_after => k_is); (case l_after => k_is); (case c_after => k_is); (case k_after => k_is)
    (case a_told => k_is); (case l_told => k_is); (case c_told => k_is); (case k_told => k_is)
    (case a_law_number => k_is); (case l_law_number => k_is); (case c_law_number => k_is); (case k_law_number => k_is)
    (case a_law_rules => k_is); (case l_law_rules => k_is); (case c_law_rules => k_is); (case k_law_rules => k_is)
    (case a_law_made => k_is); (case l_law_made => k_is); (case c_law_made => k_is); (case k_law_made => k_is)
    (case a_law_ahead => k_is); (case l_law_ahead => k_is); (case c_law_ahead => k_is); (case k_law_ahead => k_is)
    (case a_law_sees => k_is); (case l_law_sees => k_is); (case c_law_sees => k_is); (case k_law_sees => k_is)
    (case a_law_is_shut => k_is); (case l_law_is_shut => k_is); (case c_law_is_shut => k_is); (case k_law_is_shut => k_is)
    (case a_law_aged => k_is); (case l_law_aged => k_is); (case c_law_aged => k_is); (case k_law_aged => k_is)
    (case a_law_passed => k_is); (case l_law_passed => k_is); (case c_law_passed => k_is); (case k_law_passed => k_is)
    (case a_law_moves => k_is); (case l_law_moves => k_is); (case c_law_moves => k_is); (case k_law_moves => k_is)
    (case a_law_any_state => k_is); (case l_law_any_state => k_is); (case c_law_any_state => k_is); (case k_law_any_state => k_is)
    (case a_law_state_right => k_is); (case l_law_state_right => k_is); (case c_law_state_right => k_is); (case k_law_state_right => k_is)
    (case a_law_bad => k_is); (case l_law_bad => k_is); (case c_law_bad => k_is); (case k_law_bad => k_is)
    (case a_law_is_refused => k_is); (case l_law_is_refused => k_is); (case c_law_is_refused => k_is); (case k_law_is_refused => k_is)
    (case a_law => k_is); (case l_law => k_is); (case c_law => k_is); (case k_law => k_is)
    (case n_isinstance => k_is)
    (case n_len => k_is)
    (case n_all => k_is)
    (case n_max => k_is)
    (case n_min => k_is)
    (case n_int => k_is)
    (case n_sum => k_is)
    (case n_tuple => k_is)
    (case n_list => k_is)
    (case n_range => k_is)
    (case n_zip => k_is)
    (case n_str => k_is)
    (case n_bool => k_is)
    (case n_super => k_is)
    (case a_SIZES => k_is); (case l_SIZES => k_is); (case v_SIZES => exact (.cons ⟨_, rfl⟩ (.cons ⟨_, rfl⟩ (.cons ⟨_, rfl⟩ .nil))))
    (case a_RULES => k_is); (case l_RULES => k_is); (case v_RULES => exact (.cons ⟨_, rfl⟩ (.cons ⟨_, rfl⟩ (.cons ⟨_, rfl⟩ (.cons ⟨_, rfl⟩ .nil)))))
    (case a_DEEDS => k_is); (case l_DEEDS => k_is); (case v_DEEDS => exact (.cons ⟨_, rfl⟩ (.cons ⟨_, rfl⟩ (.cons ⟨_, rfl⟩ (.cons ⟨_, rfl⟩ (.cons ⟨_, rfl⟩ (.cons ⟨_, rfl⟩ .nil)))))))
    (case a_START => k_is); (case l_START => k_is); (case v_START => exact (.cons rfl (.cons rfl (.cons ⟨_, rfl⟩ .nil))))
    (case w_g => k_is); (case w_ini => k_is); (case w_pg => k_is); (case w_hd => k_is); (case w_po => k_is); (case w_sa => k_is); (case w_ha => k_is); (case w_hn => k_is); (case w_tk => k_is); (case w_mr => k_is); (case w_a1 => k_is); (case w_a2 => k_is); (case w_a3 => k_is); (case w_a4 => k_is); (case w_a5 => k_is); (case w_mks => k_is); (case w_isf => k_is); (case w_kC => k_is); (case w_l => k_is); (case w_c => k_is); (case w_k => k_is); (case w_d => k_is); (case w_e => exact ⟨_, rfl⟩)
    (case b_g => k_is); (case b_x => k_exc); (case b_k => k_is); (case b_b => k_is); (case b_t => k_is); (case b_i => k_is); (case b_s => first | rfl | k_is)
    (case h_g => k_is); (case h_ini => k_is); (case h_l => k_is); (case h_lT => k_is); (case h_cd => k_is); (case h_lc => k_is); (case h_hv => rfl); (case h_hf => decide +kernel); (case h_lcc => k_is); (case h_sub => k_is); (case h_opq => k_is); (case h_sup => ks_is); (case h_sVE => k_is); (case h_xL => k_is); (case h_hbm => decide +kernel); (case h_sa => k_is); (case h_exC => k_is); (case h_tyC => k_is); (case h_kC => k_is); (case h_noI => k_is); (case h_top => decide +kernel); (case h_tfn => k_is); (case h_ga => k_is); (case h_gg => k_is); (case h_hdC => k_is); (case h_i => k_is); (case h_s => first | rfl | k_is)
