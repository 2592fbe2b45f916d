/- Texts of the walk and of the plain laws, laid together by a program: Sp5d. -/
import Derived.Test.YtonpekldcnankaaZC26
namespace Go.Proofs.Ytonpekldcnankaa.X
open Go.RowKit Go.Proofs.YtonpekldcnankaaW.PrintWords Go.Proofs.YtonpekldcnankaaW.PrintLast Go.Proofs.YtonpekldcnankaaW.PrintMore Go.Proofs.Ytonpekldcnankaa.Ma
set_option linter.unusedVariables false
theorem knuth_stop {B y1 y0 u v q r:Nat} (hB:0 < B) (hy:0 < y1 * B + y0) (hq:q * y1 + r = u) (hQ:(u * B + v) / (y1 * B + y0)≤q) (h0:y0 < B) (hqB:q≤B) (hs:q * y0≤B * r + v∨B≤r):q = (u * B + v) / (y1 * B + y0):=by
  refine Nat.le_antisymm ?_ hQ
  rw [Nat.le_div_iff_mul_le hy,Nat.mul_add,← Nat.mul_assoc,← hq,Nat.add_mul]
  have h1:q * y0≤B * r + v:=by
    rcases hs with h | h
    · exact h
    · have h2:q * y0≤B * y0:=Nat.mul_le_mul_right _ hqB
      have h3:B * y0≤B * r:=Nat.mul_le_mul_left _ (by omega)
      omega
  rw [Nat.mul_comm r B]
  omega
theorem knuth_go {B y1 y0 u v q r:Nat} (hy:0 < y1 * B + y0) (hu:u < y1 * B + y0) (hv:v < B) (hq:q * y1 + r = u) (hQ:(u * B + v) / (y1 * B + y0)≤q) (hc:B≤q∨B * r + v < q * y0):(u * B + v) / (y1 * B + y0)≤q - 1∧0 < q:=by
  have hlt:(u * B + v) / (y1 * B + y0) < q:=by
    rcases hc with h | h
    · refine Nat.lt_of_lt_of_le ((Nat.div_lt_iff_lt_mul hy).2 ?_) h
      have h1:(u + 1) * B≤(y1 * B + y0) * B:=Nat.mul_le_mul_right _ hu
      rw [Nat.add_mul,Nat.one_mul] at h1
      rw [Nat.mul_comm B]
      omega
    · rw [Nat.div_lt_iff_lt_mul hy,Nat.mul_add,← Nat.mul_assoc,← hq,Nat.add_mul,Nat.mul_comm r B]
      omega
  generalize (u * B + v) / (y1 * B + y0) = Q at *
  exact ⟨by omega,by omega⟩
theorem knuth_start {B y1 y0 u:Nat} (hB:2≤B) (hy1:B≤2 * y1) (h0:y0 < B) (hu:u < y1 * B + y0) (v:Nat) (hv:v < B):(u * B + v) / (y1 * B + y0)≤u / y1∧u / y1≤B + 1∧u / y1 * y1 + u % y1 = u∧u % y1 < y1:=by
  have hy:0 < y1:=by omega
  have hd:=Nat.div_add_mod u y1
  have hm:=Nat.mod_lt u hy
  refine ⟨?_,?_,by rw [Nat.mul_comm];exact hd,hm⟩
  · have hyB:0 < y1 * B:=Nat.mul_pos hy (by omega)
    refine Nat.le_trans (Nat.div_le_div_left (Nat.le_add_right _ _) hyB) ?_
    rw [Nat.mul_comm y1 B,← Nat.div_div_eq_div_mul,Nat.mul_comm u B,Nat.mul_add_div (by omega),Nat.div_eq_of_lt hv,Nat.add_zero]
    exact Nat.le_refl _
  · have h1:u / y1 < B + 2:=by
      rw [Nat.div_lt_iff_lt_mul hy,Nat.add_mul,Nat.mul_comm B]
      omega
    omega
theorem two_digits {B y u v w:Nat} (hy:0 < y):((u * B + v) * B + w) / y = (u * B + v) / y * B + ((u * B + v) % y * B + w) / y∧((u * B + v) * B + w) % y = ((u * B + v) % y * B + w) % y:=by
  have hd:=Nat.div_add_mod (u * B + v) y
  generalize (u * B + v) / y = q at *
  generalize (u * B + v) % y = r at *
  have e:(u * B + v) * B + w = r * B + w + y * (q * B):=by rw [← hd,Nat.add_mul,Nat.mul_assoc];omega
  rw [e,Nat.add_mul_div_left _ _ hy,Nat.add_mul_mod_self_left]
  exact ⟨Nat.add_comm _ _,rfl⟩
theorem shrN (a:Int) (i:Nat) (hi:i≤64):shr .u64 a (i:Int) = a / 2 ^ i:=by
  unfold shr
  rw [Int.toNat_natCast,Nat.min_eq_left (show i≤IntKind.u64.bits from hi)]
theorem wrapN {n:Nat} (h:n < 18446744073709551616):IntKind.u64.wrap (n:Int) = (n:Int):=by rw [wU];omega
section
variable {y1 y0:Nat} (hy1:2147483648≤y1) (hy1':y1 < 4294967296) (h0:y0 < 4294967296)
include hy1 hy1' h0
theorem div_l0 {u v w s:Nat} (hu:u < y1 * 4294967296 + y0) (hv:v < 4294967296) {R:Int × Int}
    (hK:Ev (fun k => bits_Div64.j2 k ((y1 * 4294967296 + y0:Nat):Int) (s:Int) (y1:Int) (y0:Int) (u:Int) (v:Int) (w:Int) (((u * 4294967296 + v) / (y1 * 4294967296 + y0):Nat):Int)) R) :
    ∀ q r:Nat,q≤4294967297→q * y1 + r = u→(u * 4294967296 + v) / (y1 * 4294967296 + y0)≤q→r < 4294967296 →
      Ev (fun k => bits_Div64.l0 k ((y1 * 4294967296 + y0:Nat):Int) (s:Int) (y1:Int) (y0:Int) (u:Int) (v:Int) (w:Int) (q:Int) (r:Int)) R:=by
  have hy:0 < y1 * 4294967296 + y0:=by omega
  intro q
  induction q with
  | zero =>
    intro r _ hq hQ hr
    have hs:=knuth_stop (B:=4294967296) (by decide) hy hq hQ h0 (Nat.zero_le _) (.inl (by omega))
    rw [← hs] at hK
    refine Ev.step (fun k => bits_Div64.l0.eq_2 ..) (ev_neg (by omega) (Ev.step (fun k => bits_Div64.j1.eq_2 ..) (ev_neg ?_ hK)))
    rw [decide_eq_true_iff,wU,wU,wU]
    omega
  | succ q ih =>
    intro r hqB hq hQ hr
    have hqy:(q + 1) * y0≤4294967297 * 4294967295:=Nat.mul_le_mul (by omega) (by omega)
    have e1:((q + 1:Nat):Int) * (y0:Int) = (((q + 1) * y0:Nat):Int):=by rw [Int.natCast_mul]
    have e2:IntKind.u64.wrap (IntKind.u64.wrap (4294967296 * (r:Int)) + (v:Int)) = ((4294967296 * r + v:Nat):Int):=by rw [wU,wU];omega
    have e3:IntKind.u64.wrap ((r:Int) + (y1:Int)) = ((r + y1:Nat):Int):=by rw [wU];omega
    have e4:IntKind.u64.wrap (((q + 1:Nat):Int) - 1) = (q:Int):=by rw [wU];omega
    have goes:(4294967296≤q + 1∨4294967296 * r + v < (q + 1) * y0)→Ev (fun k => if IntKind.u64.wrap ((r:Int) + (y1:Int)) ≥ 4294967296 then bits_Div64.j2 k ((y1 * 4294967296 + y0:Nat):Int) (s:Int) (y1:Int) (y0:Int) (u:Int) (v:Int) (w:Int) (IntKind.u64.wrap (((q + 1:Nat):Int) - 1)) else bits_Div64.l0 k ((y1 * 4294967296 + y0:Nat):Int) (s:Int) (y1:Int) (y0:Int) (u:Int) (v:Int) (w:Int) (IntKind.u64.wrap (((q + 1:Nat):Int) - 1)) (IntKind.u64.wrap ((r:Int) + (y1:Int)))) R:=by
      intro hc
      obtain ⟨hQ',_⟩:=knuth_go hy hu hv hq hQ hc
      rw [Nat.add_sub_cancel] at hQ'
      have hq':q * y1 + (r + y1) = u:=by rw [← hq,Nat.add_mul,Nat.one_mul];omega
      rw [e3,e4]
      by_cases hr':4294967296≤r + y1
      · have hs:=knuth_stop (B:=4294967296) (by decide) hy hq' hQ' h0 (by omega) (.inr hr')
        refine ev_pos (by omega) ?_
        rw [hs]
        exact hK
      · exact ev_neg (by omega) (ih (r + y1) (by omega) hq' hQ' (by omega))
    refine Ev.step (fun k => bits_Div64.l0.eq_2 ..) ?_
    by_cases hb:4294967296≤q + 1
    · refine ev_pos (by omega) (Ev.step (fun k => bits_Div64.j1.eq_2 ..) (ev_pos rfl (goes (.inl hb))))
    · refine ev_neg (by omega) (Ev.step (fun k => bits_Div64.j1.eq_2 ..) ?_)
      rw [e1,wrapN (by omega),e2]
      by_cases hc:4294967296 * r + v < (q + 1) * y0
      · exact ev_pos (by rw [decide_eq_true_iff];omega) (goes (.inr hc))
      · have hs:=knuth_stop (B:=4294967296) (by decide) hy hq hQ h0 (by omega) (.inl (by omega))
        refine ev_neg (by rw [decide_eq_true_iff];omega) ?_
        rw [hs]
        exact hK
theorem div_l1 {u v s Q1:Nat} (hu:u < y1 * 4294967296 + y0) (hv:v < 4294967296) (hs64:s < 64) (hQ1:Q1 < 4294967296) :
    ∀ q r:Nat,q≤4294967297→q * y1 + r = u→(u * 4294967296 + v) / (y1 * 4294967296 + y0)≤q→r < 4294967296 →
      Ev (fun k => bits_Div64.l1 k ((y1 * 4294967296 + y0:Nat):Int) (s:Int) (y1:Int) (y0:Int) (v:Int) (Q1:Int) (r:Int) (u:Int) (q:Int))
        (((Q1 * 4294967296 + (u * 4294967296 + v) / (y1 * 4294967296 + y0):Nat):Int),(((u * 4294967296 + v) % (y1 * 4294967296 + y0) / 2 ^ s:Nat):Int)):=by
  have hy:0 < y1 * 4294967296 + y0:=by omega
  have hQ0:(u * 4294967296 + v) / (y1 * 4294967296 + y0) < 4294967296:=by
    rw [Nat.div_lt_iff_lt_mul hy]
    have h1:(u + 1) * 4294967296≤(y1 * 4294967296 + y0) * 4294967296:=Nat.mul_le_mul_right _ hu
    omega
  have hfin:(IntKind.u64.wrap (IntKind.u64.wrap ((Q1:Int) * 4294967296) + (((u * 4294967296 + v) / (y1 * 4294967296 + y0):Nat):Int)),shr .u64 (IntKind.u64.wrap (IntKind.u64.wrap (IntKind.u64.wrap ((u:Int) * 4294967296) + (v:Int)) - IntKind.u64.wrap ((((u * 4294967296 + v) / (y1 * 4294967296 + y0):Nat):Int) * ((y1 * 4294967296 + y0:Nat):Int)))) (s:Int)) =
      ((((Q1 * 4294967296 + (u * 4294967296 + v) / (y1 * 4294967296 + y0):Nat):Int),(((u * 4294967296 + v) % (y1 * 4294967296 + y0) / 2 ^ s:Nat):Int)):Int × Int):=by
    have hd:=Nat.div_add_mod (u * 4294967296 + v) (y1 * 4294967296 + y0)
    have hm:=Nat.mod_lt (u * 4294967296 + v) hy
    have hyl:y1 * 4294967296 + y0 < 18446744073709551616:=by omega
    rw [← Int.natCast_mul,Nat.mul_comm _ (y1 * 4294967296 + y0)]
    generalize (u * 4294967296 + v) % (y1 * 4294967296 + y0) = M at *
    generalize (u * 4294967296 + v) / (y1 * 4294967296 + y0) = Q at *
    generalize hp:(y1 * 4294967296 + y0) * Q = p at *
    have e1:IntKind.u64.wrap (IntKind.u64.wrap ((Q1:Int) * 4294967296) + (Q:Int)) = ((Q1 * 4294967296 + Q:Nat):Int):=by rw [wU,wU];omega
    have e2:IntKind.u64.wrap (IntKind.u64.wrap (IntKind.u64.wrap ((u:Int) * 4294967296) + (v:Int)) - IntKind.u64.wrap (p:Int)) = (M:Int):=by
      rw [wU,wU,wU,wU]
      omega
    rw [e1,e2,shrN _ s (by omega)]
    simp
  intro q
  induction q with
  | zero =>
    intro r _ hq hQ hr
    have hs:=knuth_stop (B:=4294967296) (by decide) hy hq hQ h0 (Nat.zero_le _) (.inl (by omega))
    rw [← hs] at hfin ⊢
    refine Ev.step (fun k => bits_Div64.l1.eq_2 ..) (ev_neg (by omega) (Ev.step (fun k => bits_Div64.j4.eq_2 ..) (ev_neg ?_ (ev_pos (by omega) (ev_const ?_)))))
    · rw [decide_eq_true_iff,wU,wU,wU]
      omega
    · rw [← hfin]
  | succ q ih =>
    intro r hqB hq hQ hr
    have hqy:(q + 1) * y0≤4294967297 * 4294967295:=Nat.mul_le_mul (by omega) (by omega)
    have e1:((q + 1:Nat):Int) * (y0:Int) = (((q + 1) * y0:Nat):Int):=by rw [Int.natCast_mul]
    have e2:IntKind.u64.wrap (IntKind.u64.wrap (4294967296 * (r:Int)) + (v:Int)) = ((4294967296 * r + v:Nat):Int):=by rw [wU,wU];omega
    have e3:IntKind.u64.wrap ((r:Int) + (y1:Int)) = ((r + y1:Nat):Int):=by rw [wU];omega
    have e4:IntKind.u64.wrap (((q + 1:Nat):Int) - 1) = (q:Int):=by rw [wU];omega
    have hb4:∀ k (c:Bool),bits_Div64.j4 (k + 1) ((y1 * 4294967296 + y0:Nat):Int) (s:Int) (y1:Int) (y0:Int) (v:Int) (Q1:Int) (r:Int) (u:Int) ((q + 1:Nat):Int) c = _:=fun k c => bits_Div64.j4.eq_2 ..
    refine Ev.step (fun k => bits_Div64.l1.eq_2 ..) ?_
    rw [e1,wrapN (by omega),e2]
    have key:∀ c:Bool,(c = true ↔ (4294967296≤q + 1∨4294967296 * r + v < (q + 1) * y0))→Ev (fun k => bits_Div64.j4 k ((y1 * 4294967296 + y0:Nat):Int) (s:Int) (y1:Int) (y0:Int) (v:Int) (Q1:Int) (r:Int) (u:Int) ((q + 1:Nat):Int) c)
        (((Q1 * 4294967296 + (u * 4294967296 + v) / (y1 * 4294967296 + y0):Nat):Int),(((u * 4294967296 + v) % (y1 * 4294967296 + y0) / 2 ^ s:Nat):Int)):=by
      intro c hc
      refine Ev.step (fun k => bits_Div64.j4.eq_2 ..) ?_
      by_cases hcc:c = true
      · refine ev_pos hcc ?_
        obtain ⟨hQ',_⟩:=knuth_go hy hu hv hq hQ (hc.1 hcc)
        rw [Nat.add_sub_cancel] at hQ'
        have hq':q * y1 + (r + y1) = u:=by rw [← hq,Nat.add_mul,Nat.one_mul];omega
        rw [e3,e4]
        by_cases hr':4294967296≤r + y1
        · have hs:=knuth_stop (B:=4294967296) (by decide) hy hq' hQ' h0 (by omega) (.inr hr')
          refine ev_pos (by omega) (ev_pos (by omega) (ev_const ?_))
          rw [← hfin,← hs]
        · exact ev_neg (by omega) (ih (r + y1) (by omega) hq' hQ' (by omega))
      · have hn:¬ (4294967296≤q + 1∨4294967296 * r + v < (q + 1) * y0):=fun h => hcc (hc.2 h)
        have hs:=knuth_stop (B:=4294967296) (by decide) hy hq hQ h0 (by omega) (.inl (by omega))
        refine ev_neg hcc (ev_pos (by omega) (ev_const ?_))
        rw [← hfin,← hs]
    by_cases hb:4294967296≤q + 1
    · exact ev_pos (by omega) (key true ⟨fun _ => .inl hb,fun _ => rfl⟩)
    · refine ev_neg (by omega) (key _ ?_)
      rw [decide_eq_true_iff]
      constructor
      · intro h;exact .inr (by omega)
      · intro h;omega
end
theorem sp_LeadingZeros {y:Nat} (hy:y < 18446744073709551616):bits_LeadingZeros64.f (y:Int) = some (((64 - bl y:Nat):Nat):Int):=by
  have h1:=bl_le (n:=64) (show y < 2 ^ 64 from hy)
  unfold bits_LeadingZeros64.f bits_Len64.f
  rw [if_pos ⟨by omega,by omega⟩,Option.bind_some,Int.toNat_natCast,bitLen_bl 64 _ hy hy]
  congr 1
  rw [w64 (by omega) (by omega)]
  omega
theorem shl_lit (a:Int) (i:Nat) (hi:i≤64):shl .u64 a (i:Int) = IntKind.u64.wrap (a * 2 ^ i):=by
  unfold shl
  rw [Int.toNat_natCast,Nat.min_eq_left (show i≤IntKind.u64.bits from hi)]
set_option maxRecDepth 100000 in
theorem sp_Div64 {h l y:Nat} (hh:h < y) (hl:l < 18446744073709551616) (hy:y < 18446744073709551616):Ev (fun k => bits_Div64.f k (h:Int) (l:Int) (y:Int)) ((((h * 18446744073709551616 + l) / y:Nat):Int),(((h * 18446744073709551616 + l) % y:Nat):Int)):=by
  unfold bits_Div64.f
  refine ev_neg (by omega) (ev_neg (by omega) ?_)
  by_cases h0:h = 0
  · subst h0
    refine ev_pos rfl (ev_const ?_)
    rw [Nat.zero_mul,Nat.zero_add,Int.tdiv_eq_ediv_of_nonneg (by omega),Int.tmod_eq_emod_of_nonneg (by omega),← Int.natCast_ediv,wrapN (Nat.lt_of_le_of_lt (Nat.div_le_self _ _) hl)]
    rfl
  · refine ev_neg (by omega) (ev_bind0 (sp_LeadingZeros hy) ?_)
    have hy0:y≠0:=by omega
    have b1:=bl_le (n:=64) (show y < 2 ^ 64 from hy)
    have b2:=bl_pos hy0
    have b3:=bl_ge hy0
    have b4:=bl_lt y
    obtain ⟨s,hs⟩:∃ s,s = 64 - bl y:=⟨_,rfl⟩
    rw [← hs]
    have hs64:s < 64:=by omega
    have ew:IntKind.u64.wrap (s:Int) = (s:Int):=wrapN (by omega)
    have ew2:IntKind.u64.wrap (64 - (s:Int)) = ((64 - s:Nat):Int):=by rw [wU];omega
    rw [ew,ew2,shl_lit _ s (by omega),shl_lit _ s (by omega),shl_lit _ s (by omega),shrN _ (64 - s) (by omega)]
    have hP:2 ^ s * 2 ^ (64 - s) = 18446744073709551616:=by rw [← Nat.pow_add,show s + (64 - s) = 64 by omega]
    have hyl:y * 2 ^ s < 18446744073709551616:=by
      rw [← hP,Nat.mul_comm]
      refine Nat.mul_lt_mul_of_pos_left ?_ (Nat.pow_pos (by decide))
      rw [show 64 - s = bl y by omega];exact b4
    have hyg:9223372036854775808≤y * 2 ^ s:=by
      have:2 ^ (bl y - 1) * 2 ^ s≤y * 2 ^ s:=Nat.mul_le_mul_right _ b3
      rw [← Nat.pow_add,show bl y - 1 + s = 63 by omega] at this
      exact this
    have eY:IntKind.u64.wrap ((y:Int) * 2 ^ s) = ((y * 2 ^ s:Nat):Int):=by
      rw [show (y:Int) * 2 ^ s = ((y * 2 ^ s:Nat):Int) by simp,wrapN hyl]
    have eH:IntKind.u64.wrap ((h:Int) * 2 ^ s) = ((h * 2 ^ s:Nat):Int):=by
      rw [show (h:Int) * 2 ^ s = ((h * 2 ^ s:Nat):Int) by simp,wrapN (Nat.lt_of_le_of_lt (Nat.mul_le_mul_right _ (Nat.le_of_lt hh)) hyl)]
    have eL:IntKind.u64.wrap ((l:Int) * 2 ^ s) = ((l * 2 ^ s % 18446744073709551616:Nat):Int):=by
      rw [show (l:Int) * 2 ^ s = ((l * 2 ^ s:Nat):Int) by simp,wU];omega
    have eR:(l:Int) / 2 ^ (64 - s) = ((l / 2 ^ (64 - s):Nat):Int):=by simp
    rw [eY,eH,eL,eR]
    have hlr:l / 2 ^ (64 - s) < 2 ^ s:=(Nat.div_lt_iff_lt_mul (Nat.pow_pos (by decide))).2 (by rw [hP];exact hl)
    have hhy:h * 2 ^ s + l / 2 ^ (64 - s) < y * 2 ^ s:=by
      have:(h + 1) * 2 ^ s≤y * 2 ^ s:=Nat.mul_le_mul_right _ hh
      rw [Nat.add_mul,Nat.one_mul] at this
      omega
    have hor:Go.bits .or .u64 ((h * 2 ^ s:Nat):Int) ((l / 2 ^ (64 - s):Nat):Int) = ((h * 2 ^ s + l / 2 ^ (64 - s):Nat):Int):=by
      have a1:h * 2 ^ s < 18446744073709551616:=Nat.lt_of_le_of_lt (Nat.le_add_right _ _) (Nat.lt_trans hhy hyl)
      have a2:l / 2 ^ (64 - s) < 18446744073709551616:=Nat.lt_of_le_of_lt (Nat.div_le_self _ _) hl
      have a3:(((h * 2 ^ s:Nat):Int)) % 2 ^ s = 0:=by exact_mod_cast Nat.mul_mod_left _ _
      have a4:((l / 2 ^ (64 - s):Nat):Int) < 2 ^ s:=by exact_mod_cast hlr
      generalize h * 2 ^ s = hs at *
      generalize l / 2 ^ (64 - s) = ls at *
      rw [b_or_add s (by omega) (by omega) (by omega) (by omega) a3 a4];omega
    rw [hor]
    have hN:(h * 18446744073709551616 + l) * 2 ^ s = (h * 2 ^ s + l / 2 ^ (64 - s)) * 18446744073709551616 + l * 2 ^ s % 18446744073709551616:=by
      have e1:l * 2 ^ s / 18446744073709551616 = l / 2 ^ (64 - s):=by rw [← hP,Nat.mul_comm l,Nat.mul_div_mul_left _ _ (Nat.pow_pos (by decide))]
      have e2:=Nat.div_add_mod (l * 2 ^ s) 18446744073709551616
      rw [e1] at e2
      rw [Nat.add_mul,Nat.add_mul,Nat.mul_right_comm,← e2]
      omega
    have hq1:(h * 18446744073709551616 + l) / y = (h * 18446744073709551616 + l) * 2 ^ s / (y * 2 ^ s):=(Nat.mul_div_mul_right _ _ (Nat.pow_pos (by decide))).symm
    have hq2:(h * 18446744073709551616 + l) % y = (h * 18446744073709551616 + l) * 2 ^ s % (y * 2 ^ s) / 2 ^ s:=by rw [Nat.mul_mod_mul_right,Nat.mul_div_cancel _ (Nat.pow_pos (by decide))]
    rw [hq1,hq2,hN]
    generalize hU:h * 2 ^ s + l / 2 ^ (64 - s) = u at *
    generalize hL:l * 2 ^ s % 18446744073709551616 = lw at *
    have hlw:lw < 18446744073709551616:=by rw [← hL];exact Nat.mod_lt _ (by decide)
    generalize hYv:y * 2 ^ s = Y at *
    clear hq1 hq2 hN hor eY eH eL eR hlr hL hU hYv hP b1 b2 b3 b4 hs ew ew2 hh hl hy h0 hy0
    obtain ⟨y1,y0,hYd,hy1,hy1',hy0⟩:∃ y1 y0:Nat,Y = y1 * 4294967296 + y0∧2147483648≤y1∧y1 < 4294967296∧y0 < 4294967296:=⟨Y / 4294967296,Y % 4294967296,by omega,by omega,by omega,by omega⟩
    obtain ⟨v,v0,hLd,hv,hv0⟩:∃ v v0:Nat,lw = v * 4294967296 + v0∧v < 4294967296∧v0 < 4294967296:=⟨lw / 4294967296,lw % 4294967296,by omega,by omega,by omega⟩
    have g1:((Y:Nat):Int) / 4294967296 = (y1:Int):=by omega
    have g2:Go.bits .and .u64 ((Y:Nat):Int) 4294967295 = (y0:Int):=by rw [b_mask 32 (by omega) (by omega) (by omega) (by decide)];omega
    have g3:((lw:Nat):Int) / 4294967296 = (v:Int):=by omega
    have g4:Go.bits .and .u64 ((lw:Nat):Int) 4294967295 = (v0:Int):=by rw [b_mask 32 (by omega) (by omega) (by omega) (by decide)];omega
    have g5:IntKind.u64.wrap (Int.tdiv (u:Int) (y1:Int)) = ((u / y1:Nat):Int):=by
      rw [Int.tdiv_eq_ediv_of_nonneg (by omega),← Int.natCast_ediv,wrapN (Nat.lt_of_le_of_lt (Nat.div_le_self _ _) (by omega))]
    have ks:=knuth_start (B:=4294967296) (y1:=y1) (y0:=y0) (u:=u) (by decide) (by omega) hy0 (by omega) v hv
    have g6:IntKind.u64.wrap ((u:Int) - IntKind.u64.wrap (((u / y1:Nat):Int) * (y1:Int))) = ((u % y1:Nat):Int):=by
      have:=ks.2.2.1
      rw [← Int.natCast_mul]
      generalize u / y1 * y1 = p at *
      rw [wU,wU];omega
    rw [g1,g2,g3,g4,g5,g6]
    refine ev_pos (by omega) (ev_pos (by omega) (ev_neg (by omega) ?_))
    have hY0:0 < Y:=by omega
    have td:=two_digits (B:=4294967296) (u:=u) (v:=v) (w:=v0) hY0
    have eN:u * 18446744073709551616 + lw = (u * 4294967296 + v) * 4294967296 + v0:=by omega
    rw [eN,td.1,td.2,hYd]
    have hul:u < y1 * 4294967296 + y0:=by omega
    have hQ1:(u * 4294967296 + v) / (y1 * 4294967296 + y0) < 4294967296:=by
      rw [Nat.div_lt_iff_lt_mul (by omega)]
      have h1:(u + 1) * 4294967296≤(y1 * 4294967296 + y0) * 4294967296:=Nat.mul_le_mul_right _ hul
      omega
    refine div_l0 hy1 hy1' hy0 hul hv ?_ (u / y1) (u % y1) ks.2.1 ks.2.2.1 ks.1 (by omega)
    have hr1:=Nat.mod_lt (u * 4294967296 + v) (show 0 < y1 * 4294967296 + y0 by omega)
    have hd1:=Nat.div_add_mod (u * 4294967296 + v) (y1 * 4294967296 + y0)
    refine Ev.step (fun k => bits_Div64.j2.eq_2 ..) (ev_neg (by omega) ?_)
    rw [← Int.natCast_mul,Nat.mul_comm ((u * 4294967296 + v) / (y1 * 4294967296 + y0))]
    obtain ⟨Q1,hq1⟩:∃ q,q = (u * 4294967296 + v) / (y1 * 4294967296 + y0):=⟨_,rfl⟩
    obtain ⟨u2,hm1⟩:∃ q,q = (u * 4294967296 + v) % (y1 * 4294967296 + y0):=⟨_,rfl⟩
    rw [← hq1] at hd1 hQ1 ⊢
    rw [← hm1] at hd1 hr1 ⊢
    obtain ⟨p,hp1⟩:∃ q,q = (y1 * 4294967296 + y0) * Q1:=⟨_,rfl⟩
    rw [← hp1] at hd1 ⊢
    clear hq1 hm1 hp1
    have g7:IntKind.u64.wrap (IntKind.u64.wrap (IntKind.u64.wrap ((u:Int) * 4294967296) + (v:Int)) - IntKind.u64.wrap (p:Int)) = (u2:Int):=by rw [wU,wU,wU,wU];omega
    have g8:IntKind.u64.wrap (Int.tdiv (u2:Int) (y1:Int)) = ((u2 / y1:Nat):Int):=by
      rw [Int.tdiv_eq_ediv_of_nonneg (by omega),← Int.natCast_ediv,wrapN (Nat.lt_of_le_of_lt (Nat.div_le_self _ _) (by omega))]
    have ks2:=knuth_start (B:=4294967296) (y1:=y1) (y0:=y0) (u:=u2) (by decide) (by omega) hy0 (by omega) v0 hv0
    have g9:IntKind.u64.wrap ((u2:Int) - IntKind.u64.wrap (((u2 / y1:Nat):Int) * (y1:Int))) = ((u2 % y1:Nat):Int):=by
      have:=ks2.2.2.1
      rw [← Int.natCast_mul]
      generalize u2 / y1 * y1 = p2 at *
      rw [wU,wU];omega
    rw [g7,g8,g9]
    exact div_l1 hy1 hy1' hy0 (by omega) hv0 hs64 hQ1 (u2 / y1) (u2 % y1) ks2.2.1 ks2.2.2.1 ks2.1 (by omega)
end Go.Proofs.Ytonpekldcnankaa.X
