/-
 The contracts, one after another. Conditions: none; printed by a program of our own.
-/
import Derived.Test.YtccbjhfdfbaekaaGreatNumJAll
import Derived.Test.YtccbjhfdfbaekaaGreatNumFb
import Derived.Test.YtccbjhfdfbaekaaGreatNumFc
import Derived.Test.YtccbjhfdfbaekaaGreatRunZ
namespace Go.Sx.N
open Go.Proofs
theorem ad1 : aG b1 := aJ (dX.none fun _ _ h _ _ => by unfold pms at h; cases h) ad2 aa4 rfl rfl
theorem ad3 : aG b2 := aJ ad1 ad4 aa5 rfl rfl
theorem ad5 : aG b3 := aJ ad3 ad6 aa6 rfl rfl
theorem af9 : aG b4 := aJ ad5 aga ad7 rfl rfl
theorem ad8 : aG b5 := aJ af9 ad9 aa7 rfl rfl
theorem YJ : aG b6 := aJ ad8 YK Wu rfl rfl
theorem agb : aG b7 := aJ YJ agc aea rfl rfl
theorem agd : aG b8 := aJ agb agf aeb rfl rfl
theorem aa8 : aG b9 := aJ agd aa9 YL rfl rfl
theorem agh : aG b10 := aJ aa8 agi aec rfl rfl
theorem aed : aG b11 := aJ agh aee abb rfl rfl
theorem YM : aG b12 := aJ aed YN Wv rfl rfl
theorem Ph : aG b13 := aJ YM Pj L9 rfl rfl
theorem YO : aG b14 := aJ Ph YP Wx rfl rfl
theorem abd : aG b15 := aJ YO abe YQ rfl rfl
theorem agj : aG b16 := aJ abd agk aef rfl rfl
theorem Wy : aG b17 := aJ agj WB Ui rfl rfl
theorem QD : aG b18 := aJ Wy QE Pm rfl rfl
theorem JQ : aG b19 := aJ QD JU Ir rfl rfl
theorem agl : aG b20 := aJ JQ agm aeg rfl rfl
theorem aeh : aG zf := aJ agl aei abf rfl rfl
theorem aej : aG b22 := aJ aeh aek abg rfl rfl
theorem YR : aG mY := aJ aej YS WC rfl rfl
theorem abh : aG UR := aJ YR abj YT rfl rfl
theorem Uj : aG b25 := aJ abh Uk QF rfl rfl
theorem WE : aG Ho := aJ Uj WG Ul rfl rfl
theorem agn : aG b27 := aJ WE agp ael rfl rfl
theorem abk : aG b28 := aJ agn abl YU rfl rfl
theorem air : aG b29 := aJ abk ais agq rfl rfl
theorem agr : aG b30 := aJ air ags aem rfl rfl
theorem agt : aG b31 := aJ agr agu aen rfl rfl
theorem YV : aG b32 := aJ agt YW WH rfl rfl
theorem agv : aG b33 := aJ YV agw aeo rfl rfl
theorem agx : aG kQ := aJ agv agy aep rfl rfl
theorem WI : aG JV := aJ agx WJ Um rfl rfl
theorem WL : aG b36 := aJ WI WM Un rfl rfl
theorem aer : aG Ez := aJ WL aes abm rfl rfl
theorem abn : aG b38 := aJ aer abo YX rfl rfl
theorem YZ : aG EC := aJ abn Y2 WO rfl rfl
theorem abp : aG Af := aJ YZ abq Y3 rfl rfl
theorem abr : aG zh := aJ abp abt Y4 rfl rfl
theorem Uo : aG vC := aJ abr Ur QG rfl rfl
theorem WQ : aG ED := aJ Uo WR Us rfl rfl
theorem agz : aG QI := aJ WQ agA aeu rfl rfl
theorem agB : aG oC := aJ agz agC aev rfl rfl
theorem agD : aG b46 := aJ agB agE aew rfl rfl
theorem agF : aG Ag := aJ agD agG aex rfl rfl
theorem agH : aG b48 := aJ agF agI aey rfl rfl
theorem abu : aG b49 := aJ agH abv Y5 rfl rfl
theorem abw : aG JW := aJ abu abx Y6 rfl rfl
theorem aez : aG b51 := aJ abw aeA aby rfl rfl
theorem agJ : aG Hq := aJ aez agK aeB rfl rfl
theorem aeC : aG b53 := aJ agJ aeD abz rfl rfl
theorem WS : aG b54 := aJ aeC WT Ut rfl rfl
theorem aeE : aG b55 := aJ WS aeF abA rfl rfl
theorem abB : aG b56 := aJ aeE abC Y7 rfl rfl
theorem abD : aG b57 := aJ abB abE Y8 rfl rfl
theorem abG : aG b58 := aJ abD abH Y9 rfl rfl
theorem agL : aG JX := aJ abG agM aeG rfl rfl
theorem ait : aG b60 := aJ agL aiu QJ rfl rfl
theorem abI : aG EF := aJ ait abJ EG rfl rfl
theorem aeH : aG Za := aJ abI aeI Iu rfl rfl
theorem abK : aG b63 := aJ aeH abL EH rfl rfl
theorem agN : aG b64 := aJ abK agO Mc rfl rfl
theorem abM : aG oW := aJ agN abN EI rfl rfl
theorem agP : aG b66 := aJ abM agQ Md rfl rfl
theorem abO : aG oZ := aJ agP abP EJ rfl rfl
theorem abQ : aG b68 := aJ abO abR Zb rfl rfl
theorem abS : aG b69 := aJ abQ abT Zc rfl rfl
theorem Zd : aG o7 := aJ abS Ze WU rfl rfl
theorem aiv : aG b71 := aJ Zd aiw agR rfl rfl
theorem abU : aG b72 := aJ aiv abV Zf rfl rfl
theorem Zg : aG b73 := aJ abU Zh WV rfl rfl
theorem aeJ : aG b74 := aJ Zg aeK abW rfl rfl
theorem aeL : aG b75 := aJ aeJ aeM abX rfl rfl
theorem Pn : aG b76 := aJ aeL Po Me rfl rfl
theorem Pq : aG b77 := aJ Pn Pv MB rfl rfl
theorem agS : aG b78 := aJ Pq agT aeN rfl rfl
theorem aeO : aG QK := aJ agS aeP abY rfl rfl
theorem WW : aG b80 := aJ aeO WX Uu rfl rfl
theorem Uw : aG QL := aJ WW Ux QM rfl rfl
theorem abZ : aG b82 := aJ Uw ab1 Zi rfl rfl
theorem QN : aG b83 := aJ abZ QO Px rfl rfl
theorem WY : aG QS := aJ QN WZ Uy rfl rfl
theorem aeQ : aG b85 := aJ WY aeR ab2 rfl rfl
theorem agU : aG b86 := aJ aeQ agV aeS rfl rfl
theorem Uz : aG b87 := aJ agU UA QT rfl rfl
theorem Zj : aG b88 := aJ Uz Zk W9 rfl rfl
theorem agW : aG b89 := aJ Zj agX aeT rfl rfl
theorem ab3 : aG b90 := aJ agW ab4 Zl rfl rfl
theorem aeU : aG QU := aJ ab3 aeV ab5 rfl rfl
theorem aix : aG b92 := aJ aeU aiy agY rfl rfl
theorem agZ : aG QV := aJ aix ag0 aeW rfl rfl
theorem ag1 : aG b94 := aJ agZ ag2 aeX rfl rfl
theorem ab6 : aG b95 := aJ ag1 ab7 Zm rfl rfl
theorem aeY : aG QW := aJ ab6 aeZ ab8 rfl rfl
theorem Xa : aG b97 := aJ aeY Xb UC rfl rfl
theorem Zn : aG b98 := aJ Xa Zo Xc rfl rfl
theorem ab9 : aG b99 := aJ Zn acd Zp rfl rfl
theorem ace : aG zi := aJ ab9 acf Zq rfl rfl
theorem acg : aG MC := aJ ace ach Zr rfl rfl
theorem afN : aG Iw := aJ acg ag3 ae0 rfl rfl
end Go.Sx.N
